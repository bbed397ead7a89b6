/- What the other texts share. Conditions: as each theorem names them. -/
import Derived.Test.YtkigmebejmmikaaGreatDoorProg
import Derived.WalkKit
import Derived.WalkSmall
import Derived.WalkSpells
import Derived.WalkLawsBesides
import Derived.Below
import Derived.Lib.Hide
import Derived.Lib.BufferRead
import Derived.Laws.BytesArg
import Derived.Deep.MidRow
set_option maxRecDepth 100000
set_option maxHeartbeats 32000000
set_option linter.unusedVariables false
set_option linter.unusedSimpArgs false
namespace Go.Proofs.YtkigmebejmmikaaGreatDoor
open Go.RowKit Go.Proofs.Tryz
theorem kF {φ R : Value → World → Prop} {f : Value → Act} {K : Act → World → Prop} (hK : ∀ v w' a', φ v w' → True → R v w' → a' = f v → K a' w') {v : Value} {w' : World} {a' : Act} (h : R v w') (h1 : φ v w' := by first | exact rfl | exact True.intro) (h2 : a' = f v := by first | exact rfl | (simp [Act.put, hpre]; done) | (simp [Act.put, hpre]; exact rfl)) (h3 : v = v := by first | exact @rfl _ undef | exact rfl) : K a' w' := hK v w' a' h1 True.intro h h2
instance:Coe (List UInt8) Value:=⟨fun l=>.string ⟨l.toArray⟩⟩
instance:Coe Int Value:=⟨fun l=>.int .i64 l⟩
instance:Coe Nat Value:=⟨fun b=>.pointer (some ⟨b,0,none⟩)⟩
instance:Coe World Nat:=⟨fun w=>w.heap.size⟩
instance(b i:Nat):CoeDep (Nat×Nat) (b,i) Addr:=⟨⟨b,i,none⟩⟩
instance(b i:Nat):CoeDep (Nat×Nat) (b,i) (Option Addr):=⟨some ⟨b,i,none⟩⟩
instance(b i:Nat):CoeDep (Nat×Nat) (b,i) Value:=⟨.pointer (some ⟨b,i,none⟩)⟩
instance(b i:Nat):CoeDep (Nat×Nat) (b,i) (Option Value):=⟨some (.pointer (some ⟨b,i,none⟩))⟩
instance(b:World)(i:Nat):CoeDep (World×Nat) (b,i) Addr:=⟨⟨b.heap.size,i,none⟩⟩
instance(b:World)(i:Nat):CoeDep (World×Nat) (b,i) (Option Addr):=⟨some ⟨b.heap.size,i,none⟩⟩
instance(b:World)(i:Nat):CoeDep (World×Nat) (b,i) Value:=⟨.pointer (some ⟨b.heap.size,i,none⟩)⟩
instance(b:World)(i:Nat):CoeDep (World×Nat) (b,i) (Option Value):=⟨some (.pointer (some ⟨b.heap.size,i,none⟩))⟩
instance(b:World)(n i:Nat):CoeDep (World×Nat×Nat) (b,n,i) Addr:=⟨⟨b.heap.size+n,i,none⟩⟩
instance(b:World)(n i:Nat):CoeDep (World×Nat×Nat) (b,n,i) (Option Addr):=⟨some ⟨b.heap.size+n,i,none⟩⟩
instance(b:World)(n i:Nat):CoeDep (World×Nat×Nat) (b,n,i) Value:=⟨.pointer (some ⟨b.heap.size+n,i,none⟩)⟩
instance(b:World)(n i:Nat):CoeDep (World×Nat×Nat) (b,n,i) (Option Value):=⟨some (.pointer (some ⟨b.heap.size+n,i,none⟩))⟩
inductive Ea0|z
def aa:Ea0:=.z
instance:Coe Ea0 Value:=⟨fun _=>.string ⟨#[]⟩⟩
theorem ab:type_of% @World.rangeAt_setCells_same:=@World.rangeAt_setCells_same
theorem ac:type_of% @Nat.lt_of_lt_of_le:=@Nat.lt_of_lt_of_le
theorem ad:type_of% @Nat.le_trans:=@Nat.le_trans
theorem ae:type_of% @List.getElem_mem:=@List.getElem_mem
theorem af:type_of% @List.mem_append:=@List.mem_append
theorem ag:type_of% @Nat.zero_le:=@Nat.zero_le
theorem ah:type_of% @List.length_append:=@List.length_append
theorem ai:type_of% @World.there_setCells:=@World.there_setCells
theorem aj:type_of% @Option.some.injEq:=@Option.some.injEq
theorem ak:type_of% @World.rangeAt_setCells_apart:=@World.rangeAt_setCells_apart
theorem am:type_of% @Nat.zero_add:=@Nat.zero_add
theorem an:type_of% @Bool.false_eq_true:=@Bool.false_eq_true
theorem ao:type_of% @List.mem_map_of_mem:=@List.mem_map_of_mem
theorem ap:type_of% @List.mem_singleton:=@List.mem_singleton
theorem aq:type_of% @World.there_alloc:=@World.there_alloc
theorem ar:type_of% @List.take_of_length_le:=@List.take_of_length_le
theorem au:type_of% @List.cons_append:=@List.cons_append
theorem av:type_of% @Bool.and_eq_true:=@Bool.and_eq_true
theorem aw:type_of% @List.mem_map:=@List.mem_map
theorem ax:type_of% @List.map_cons:=@List.map_cons
theorem ay:type_of% @List.map_append:=@List.map_append
theorem az:type_of% @List.mem_cons:=@List.mem_cons
theorem aA:type_of% @World.cell?_drew:=@World.cell?_drew
theorem aB:type_of% @decide_eq_false:=@decide_eq_false
theorem aC:type_of% @decide_eq_true:=@decide_eq_true
theorem aD:type_of% @Prod.mk.injEq:=@Prod.mk.injEq
theorem aE:type_of% @bodyPost_ret:=@bodyPost_ret
theorem aF:type_of% @Nat.lt_or_ge:=@Nat.lt_or_ge
theorem aG{p:Prop}(h:p:=by omega):p:=h
theorem aH{p:Prop}(h:p:=by first|exact hpre|exact hpre.1|exact hpre.2|exact hpre.1.1|exact hpre.1.2|exact hpre.2.1|exact hpre.2.2|exact hpre.2.1.1|exact hpre.2.1.2|exact hpre.2.2.1|exact hpre.2.2.2|exact hpre.2.2.2.1|exact hpre.2.2.2.2):p:=h
theorem aI{p:Prop}(h:p:=by simp[Act.put,hpre]):p:=h
theorem aJ{p:Prop}(h:p:=by decide):p:=h
theorem aK{p:Prop}(h:p:=by first|exact hpre|exact hpre.1|exact hpre.2|exact hpre.2.1|exact hpre.1.1|exact hpre.2.2.1):p:=h
theorem aL{p:Prop}(h:p:=by simp):p:=h
theorem aM{p:Prop}(h:p:=by kernel_rfl):p:=h
theorem aN{p:Prop}(h:p:=by first|exact Ar _|(simp;omega)|omega):p:=h
theorem aO{p:Prop}(h:p:=by simp;omega):p:=h
theorem aP{p:Prop}(h:p:=by (repeat (first|exact Aw _ _|refine Below.setCell ?_ (by first|exact Ar _|(simp;done)|(simp;omega)|omega) _|refine Below.alloc ?_ (by first|exact Ar _|(simp;done)|(simp;omega)|omega) _|refine Below.drew ?_|refine below_drewN ?_ _))):p:=h
theorem aQ{p:Prop}(h:p:=by first|exact Ar _|(simp;done)|(simp;omega)|omega):p:=h
theorem aR{p:Prop}(h:p:=by simpa using h):p:=h
theorem aS{p:Prop}(h:p:=by (repeat (first|exact Hb2.o|refine Below.setCell ?_ (by first|exact Ar _|(simp;omega)|omega) _|refine Below.alloc ?_ (by first|exact Ar _|(simp;omega)|omega) _|refine Below.drew ?_))):p:=h
theorem aT{p:Prop}(h:p:=by first|rfl|(simp[Act.put,hpre];done)|(simp[Act.put,hpre];omega)):p:=h
theorem aU{p:Prop}(h:p:=by unfold maxLen;omega):p:=h
theorem aV{p:Prop}(h:p:=by simp[Act.put,hpre,hwr]):p:=h
theorem aW{p:Prop}(h:p:=by (repeat (first|exact Hb.o|refine Below.setCell ?_ (by first|exact Ar _|(simp;omega)|omega) _|refine Below.alloc ?_ (by first|exact Ar _|(simp;omega)|omega) _|refine Below.drew ?_))):p:=h
theorem aX{p:Prop}(h:p:=by (repeat (first|exact Hb4.o|refine Below.setCell ?_ (by first|exact Ar _|exact Hb4.o.size|(simp;done)|(simp;omega)|omega) _|refine Below.alloc ?_ (by first|exact Ar _|exact Hb4.o.size|(simp;done)|(simp;omega)|omega) _|refine Below.drew ?_))):p:=h
theorem aY{p:Prop}(h:p:=by rw[HS9.o];refine Ao _ (Ar _) _ _ _ ?_;first|with_reducible exact Hb.o|exact Hb.o.alloc Hb.o.size _):p:=h
theorem aZ{p:Prop}(h:p:=by have:=HBn.o;omega):p:=h
theorem ba{p:Prop}(h:p:=by (repeat (first|exact Hb2.o|refine Below.setCell ?_ (by first|exact Ar _|exact Hb2.o.size|(simp;done)|(simp;omega)|omega) _|refine Below.alloc ?_ (by first|exact Ar _|exact Hb2.o.size|(simp;done)|(simp;omega)|omega) _))):p:=h
theorem bc{p:Prop}(h:p:=by simp[hp]):p:=h
theorem bg{p:Prop}(h:p:=by (repeat (first|exact Hb5.o|refine Below.setCell ?_ (by first|exact Ar _|(simp;omega)|omega) _|refine Below.alloc ?_ (by first|exact Ar _|(simp;omega)|omega) _|refine Below.drew ?_))):p:=h
theorem bh{p:Prop}(h:p:=by first|(simp[Act.put,hpre];done)|(simp[Act.put,hpre];omega)):p:=h
theorem bi{p:Prop}(h:p:=by unfold Addr.add;split<;>simp_all):p:=h
theorem bj{p:Prop}(h:p:=by (repeat (first|exact HbW.o|refine Below.setCell ?_ (by first|exact Ar _|(simp;done)|(simp;omega)|omega) _|refine Below.alloc ?_ (by first|exact Ar _|(simp;done)|(simp;omega)|omega) _|refine Below.drew ?_|refine below_drewN ?_ _))):p:=h
theorem bn{p:Prop}(h:p:=by first|exact Ar _|exact Hb2.o.size|(simp;done)|(simp;omega)|omega):p:=h
theorem bp{p:Prop}(h:p:=by first|exact Ar _|exact Hb4.o.size|(simp;done)|(simp;omega)|omega):p:=h
theorem bq{p:Prop}(h:p:=by rw[HS9.o];exact ab _ _ _ _ (by first|exact aq HT.o _|exact HT.o)):p:=h
theorem br{p:Prop}(h:p:=by simp[Act.put,hp]):p:=h
theorem bu{p:Prop}(h:p:=by first|rfl|(simp[Act.put,hp];done)|(simp[Act.put,hp];exact rfl)):p:=h
theorem bv{p:Prop}(h:p:=by first|omega|(simp;omega)):p:=h
theorem bw{p:Prop}(h:p:=by rw[hp];simp):p:=h
theorem bz{p:Prop}(h:p:=by have:=Hsl.o;simp at this;omega):p:=h
theorem bB{p:Prop}(h:p:=by simp[Value.oneCell']):p:=h
theorem bC{p:Prop}(h:p:=by simp[Vl.what]):p:=h
theorem bD{p:Prop}(h:p:=by rw[hfz4 w.heap.size j (by simp;omega)];simp[go_sem,hfz2,hfz,hzz,hz3]):p:=h
theorem bE{p:Prop}(h:p:=by rw[hb];decide):p:=h
theorem bF{p:Prop}(h:p:=by simp[Act.put,hpre,u3]):p:=h
theorem bG{p:Prop}(h:p:=by rw[HS9.o];refine Ao _ (Ar _) _ _ _ ?_;first|with_reducible exact Hb4.o|exact Hb4.o.alloc Hb4.o.size _):p:=h
theorem bH{p:Prop}(h:p:=by rw[HS9.o];refine Ao _ (Ar _) _ _ _ ?_;first|with_reducible exact Hb6.o|exact Hb6.o.alloc Hb6.o.size _):p:=h
theorem bI{p:Prop}(h:p:=by rw[hc4 w 0 (by simp;omega)];simp[go_sem,hc2,hc,hzz,hz3]):p:=h
theorem bJ{p:Prop}(h:p:=by rw[hc4 w 1 (by simp;omega)];simp[go_sem,hc2,hc,hzz,hz3]):p:=h
theorem bK{p:Prop}(h:p:=by rw[hc4 w 2 (by simp;omega)];simp[go_sem,hc2,hc,hzz,hz3]):p:=h
theorem bL{p:Prop}(h:p:=by rw[hc4 w 3 (by simp;omega)];simp[go_sem,hc2,hc,hzz,hz3]):p:=h
theorem bM{p:Prop}(h:p:=by (repeat (first|exact Hb4.o|refine Below.setCell ?_ (by first|exact Ar _|(simp;omega)|omega) _|refine Below.alloc ?_ (by first|exact Ar _|(simp;omega)|omega) _|refine Below.drew ?_|refine Below.trans ?_ (hb6.mono (by first|exact Ar _|(simp;omega)|omega))))):p:=h
theorem bN{p:Prop}(h:p:=by (repeat (first|exact Hb.o|refine Below.setCell ?_ (by first|exact Ar _|(simp;omega)|omega) _|refine Below.alloc ?_ (by first|exact Ar _|(simp;omega)|omega) _|refine Below.drew ?_|refine Below.trans ?_ (hb6.mono (by first|exact Ar _|(simp;omega)|omega))))):p:=h
theorem bO{p:Prop}(h:p:=by rw[hW3];exact(((Aw _ _).alloc (Ar _) _).alloc (by simp) _).alloc (by simp;omega) _):p:=h
theorem bP{p:Prop}(h:p:=by first|(simp[Act.put,hp];done)|(simp[Act.put,hp];exact rfl)):p:=h
theorem bQ{p:Prop}(h:p:=by rfl):p:=h
theorem bR{p:Prop}(h:p:=by first|exact aq HT.o _|exact HT.o):p:=h
theorem bS{p:Prop}(h:p:=by (repeat (first|exact hbr.o|refine Below.setCell ?_ (by first|exact Ar _|(simp;done)|(simp;omega)|omega) _|refine Below.alloc ?_ (by first|exact Ar _|(simp;done)|(simp;omega)|omega) _|refine Below.drew ?_|refine below_drewN ?_ _))):p:=h
theorem bT{p:Prop}(h:p:=by simp[Act.put,hpre,u5]):p:=h
theorem bU{p:Prop}(h:p:=by rw[hfz w.heap.size j (by simp)];simp):p:=h
theorem bV{p:Prop}(h:p:=by simp[Act.put,hpre];done):p:=h
theorem bW{p:Prop}(h:p:=by have:=hk.2.2;omega):p:=h
theorem bX{p:Prop}(h:p:=by have:=At hne;simpa using this):p:=h
theorem bY{p:Prop}(h:p:=by rw[beq_eq_false_iff_ne];omega):p:=h
theorem bZ{p:Prop}(h:p:=by simp[Act.put,hpre,H64.o]):p:=h
theorem cd{p:Prop}(h:p:=by simp[Dj,Vl.what,Vl.kids]):p:=h
theorem ce{p:Prop}(h:p:=by (repeat (first|exact Hb5.o|refine Below.setCell ?_ (by first|exact Ar _|(simp;done)|(simp;omega)|omega) _|refine Below.alloc ?_ (by first|exact Ar _|(simp;done)|(simp;omega)|omega) _|refine Below.drew ?_))):p:=h
theorem cf{p:Prop}(h:p:=by rw[HS9.o];exact ab _ _ _ _ (by first|exact aq HT4.o _|exact HT4.o)):p:=h
theorem ch{p:Prop}(h:p:=by rw[HS9.o];exact ab _ _ _ _ (by first|exact aq HT6.o _|exact HT6.o)):p:=h
theorem ci{p:Prop}(h:p:=by rw[hfz4 w2.heap.size j (by simp)];simp):p:=h
theorem cj{p:Prop}(h:p:=by rw[h2];decide):p:=h
theorem ck{p:Prop}(h:p:=by first|exact hpre.2|exact hpre.2.1|exact hpre.1):p:=h
theorem cm{p:Prop}(h:p:=by rw[IntWalk.u8_in _ (by omega)];omega):p:=h
theorem cn{p:Prop}(h:p:=by simp[hl,go_sem]):p:=h
theorem co{p:Prop}(h:p:=by have:=Bs hne;simpa using this):p:=h
theorem cp{p:Prop}(h:p:=by simp[Act.put,hpre,um]):p:=h
theorem cq{p:Prop}(h:p:=by have e:10 ^ (2+1)=1000:=rfl;omega):p:=h
theorem cr{p:Prop}(h:p:=by unfold Bt Cr;rw[hs0,hb];rfl):p:=h
theorem ct{p:Prop}(h:p:=by intro e;injection e with e;omega):p:=h
theorem cu{p:Prop}(h:p:=by rw[HWa.o];simp[go_sem]):p:=h
theorem cv{p:Prop}(h:p:=by rw[Hs.o];simp):p:=h
theorem cw{p:Prop}(h:p:=by rw[hc w 0 (by simp)];simp):p:=h
theorem cx{p:Prop}(h:p:=by rw[hc w 1 (by simp)];simp):p:=h
theorem cy{p:Prop}(h:p:=by rw[hc w 2 (by simp)];simp):p:=h
theorem cz{p:Prop}(h:p:=by rw[<-hwg];exact HF0.o):p:=h
theorem cC{p:Prop}(h:p:=by rw[<-hwg];exact(Aw _ _).alloc (Ar _) _):p:=h
theorem cD{p:Prop}(h:p:=by rw[hfz3 _ _ (by omega),hfz2 _ _ (by simp)];go_simp):p:=h
theorem cE{p:Prop}(h:p:=by have:=At hst;simpa using this):p:=h
theorem cF{p:Prop}(h:p:=by rw[hcc _ _ (by omega),hc2 _ _ (by simp)];go_simp):p:=h
theorem cG{p:Prop}(h:p:=by unfold Cc;rw[if_pos rfl,hp];cases Ml [a,b]<;>rfl):p:=h
theorem cH{p:Prop}(h:p:=by unfold Bt at hkl;rw[hs]at hkl;simp at hkl;omega):p:=h
theorem cI{p:Prop}(h:p:=by rw[hc4 w2 0 (by simp)];simp):p:=h
theorem cJ{p:Prop}(h:p:=by rw[hc4 w2 1 (by simp)];simp):p:=h
theorem cK{p:Prop}(h:p:=by rw[hc4 w2 2 (by simp)];simp):p:=h
theorem cL{p:Prop}(h:p:=by rw[hc4 w2 3 (by simp)];simp):p:=h
theorem cM{p:Prop}(h:p:=by simpa using he):p:=h
theorem cN{p:Prop}(h:p:=by rw[ar (by omega)];exact hf):p:=h
theorem cO{p:Prop}(h:p:=by rw[hw1];simp):p:=h
theorem cP{p:Prop}(h:p:=by simp only[List.all_append,List.all_cons,Hdp.o,Hnp.o,Hs4.o.1];decide):p:=h
theorem cQ{p:Prop}(h:p:=by rw[hw2];go_simp):p:=h
theorem cR{p:Prop}(h:p:=by intro h;rcases h with h|h;omega;exact h4 h):p:=h
theorem cS{p:Prop}(h:p:=by rw[hW1];exact Fk.new _ _):p:=h
theorem cT{p:Prop}(h:p:=by rw[hfs];simp):p:=h
theorem cU{p:Prop}(h:p:=by have:=Hbr.o.size;have:=Hbj.o.size;omega):p:=h
theorem cV{p:Prop}(h:p:=by simp[hbs]):p:=h
theorem cW{p:Prop}(h:p:=by simp[hsg]):p:=h
theorem cX{p:Prop}(h:p:=by rw[<-hwk];simp[go_sem]):p:=h
theorem cY{p:Prop}(h:p:=by rw[h5];decide):p:=h
theorem cZ{p:Prop}(h:p:=by simp at hz ⊢;exact .inr hz):p:=h
theorem d7{p:Prop}(h:p:=by simp[Cq]):p:=h
theorem d9{p:Prop}(h:p:=by unfold maxLen;have:=Hsp.o;have:=Hsl.o;simp at this;omega):p:=h
theorem da{p:Prop}(h:p:=by simp at hkl ⊢;omega):p:=h
theorem db{p:Prop}(h:p:=by have e:10 ^ (5+1)=1000000:=rfl;omega):p:=h
theorem de{p:Prop}(h:p:=by have:=Hsl.o;omega):p:=h
theorem dg{p:Prop}(h:p:=by rw[hfin.o,E7.o];cases b4<;>simp[h20]):p:=h
theorem dh{p:Prop}(h:p:=by rw[HB.o]at hy;injection hy with hy;subst hy;exact HV.o):p:=h
theorem di{p:Prop}(h:p:=by rw[hW1];simp):p:=h
theorem dj{p:Prop}(h:p:=by simpa using Ab HR6.o 2 rfl):p:=h
theorem dm{p:Prop}(h:p:=by simpa using Ab HR6.o 3 rfl):p:=h
theorem dq{p:Prop}(h:p:=by cases s with|nil=>exact absurd rfl hne|cons c z=>rfl):p:=h
theorem dr{p:Prop}(h:p:=by first|exact aq HT4.o _|exact HT4.o):p:=h
theorem du{p:Prop}(h:p:=by first|exact aq HT6.o _|exact HT6.o):p:=h
theorem dx{p:Prop}(h:p:=by rw[hfin.o,e7];cases b4<;>simp[h20]):p:=h
theorem dy{p:Prop}(h:p:=by simpa [hL 5 (by decide)]using hR.1):p:=h
theorem dz{p:Prop}(h:p:=by rw[<-hW0];simp[go_sem,u0,hn1,hn2]):p:=h
theorem dA{p:Prop}(h:p:=by rw[<-hW0];simp[go_sem,u1,hn1,hn2]):p:=h
theorem dB{p:Prop}(h:p:=by rw[<-hW0];simp[go_sem,u2,hn1,hn2]):p:=h
theorem dC{p:Prop}(h:p:=by rw[<-hW0];simp[go_sem,u3,hn1,hn2]):p:=h
theorem dD{p:Prop}(h:p:=by simpa [An]using hs9):p:=h
theorem dE{p:Prop}(h:p:=by unfold Bt Cr;rw[hs,if_pos hb];rfl):p:=h
theorem dF{p:Prop}(h:p:=by simp[As]at hL9 ⊢;omega):p:=h
theorem dG{p:Prop}(h:p:=by rw[HS9.o];refine Ao _ (Ar _) _ _ _ ?_;first|with_reducible exact Hb7.o|exact Hb7.o.alloc Hb7.o.size _):p:=h
theorem dH{p:Prop}(h:p:=by rw[<-hW0];simp[go_sem,hzf,d2,f2]):p:=h
theorem dI{p:Prop}(h:p:=by rw[<-hW0];simp[go_sem,hzf,d3,f2]):p:=h
theorem dJ{p:Prop}(h:p:=by rw[show Ah (La.take k)++[.string ⟨x.toArray⟩]=Ah (La.take k++[x])by simp[Ah]]at ho';exact ho'):p:=h
theorem dK{p:Prop}(h:p:=by rw[show Ah (Lb.take k)++[.string ⟨y.toArray⟩]=Ah (Lb.take k++[y])by simp[Ah]]at ho';exact ho'):p:=h
theorem dL{p:Prop}(h:p:=by rw[HS6.o,Cy];exact hz5):p:=h
theorem dM{p:Prop}(h:p:=by simpa using h1):p:=h
theorem dN{p:Prop}(h:p:=by simpa using ht):p:=h
theorem dO{p:Prop}(h:p:=by first|exact hpre.2|exact hpre):p:=h
theorem dP{p:Prop}(h:p:=by rw[Ks,List.length_drop];omega):p:=h
theorem dQ{p:Prop}(h:p:=by unfold Bt Kd.part;rw[hsg];rfl):p:=h
theorem dR{p:Prop}(h:p:=by repeat (first|exact Hb2.o.alloc Hb2.o.size _|refine Below.drew ?_|refine below_drewN ?_ _)):p:=h
theorem dS{p:Prop}(h:p:=by rw[hq];simp):p:=h
theorem dT{p:Prop}(h:p:=by rintro rfl;exact(List.nodup_cons.1 hn).1 hy):p:=h
theorem dU{p:Prop}(h:p:=by simp at hl ⊢;omega):p:=h
theorem dV{p:Prop}(h:p:=by simp[Value.ownBlock]):p:=h
theorem dW{p:Prop}(h:p:=by unfold Bt;rw[hs];rfl):p:=h
theorem dX{p:Prop}(h:p:=by first|exact hpre.2|exact hpre.1.2|exact hpre.2.2|exact hpre.2.1.2|exact hpre.1.1.2):p:=h
theorem dY{p:Prop}(h:p:=by rw[<-hW0];simp[go_sem,hzb]):p:=h
theorem dZ{p:Prop}(h:p:=by simp[Act.put,hp,e5]):p:=h
theorem ee{p:Prop}(h:p:=by simp[Act.put,u3,u5]):p:=h
theorem ef{p:Prop}(h:p:=by rw[<-hW0];simp[go_sem,d0]):p:=h
theorem eh{p:Prop}(h:p:=by rw[<-hW0];simp[go_sem,d1]):p:=h
theorem ei{p:Prop}(h:p:=by rw[<-hW0];simp[go_sem,f1]):p:=h
theorem ep{p:Prop}(h:p:=by rw[<-hwg,hB];simp[go_sem]):p:=h
theorem eu{p:Prop}(h:p:=by rw[hfin.o,E7.o];simp[h20]):p:=h
theorem ev{p:Prop}(h:p:=by simp[Dj,Vl.what,Ay,Di,Fa]):p:=h
theorem ew{p:Prop}(h:p:=by unfold Kd.part;rw[hs];rfl):p:=h
theorem eC{p:Prop}(h:p:=by rw[<-hwk];exact(Aw _ _).alloc (Ar _) _):p:=h
theorem eD{p:Prop}(h:p:=by rw[h85];decide):p:=h
theorem eE{p:Prop}(h:p:=by rw[hw2];exact Hb1.o.alloc Hb1.o.size _):p:=h
theorem eF{p:Prop}(h:p:=by show w.heap.size+1<w.heap.size+2;omega):p:=h
theorem eG{p:Prop}(h:p:=by simp[Cq];omega):p:=h
theorem eH{p:Prop}(h:p:=by simpa using h2):p:=h
theorem eI{p:Prop}(h:p:=by simpa using hi):p:=h
theorem eJ{p:Prop}(h:p:=by simpa using hl):p:=h
theorem eK{p:Prop}(h:p:=by simpa using hu):p:=h
theorem eL{p:Prop}(h:p:=by rw[hf];simp):p:=h
theorem eM{p:Prop}(h:p:=by rw[(Ck hb1).1 _ _ (by simp)];go_simp):p:=h
theorem eN{p:Prop}(h:p:=by rw[hW3];exact(Aw _ _).alloc (Ar _) _):p:=h
theorem eO{p:Prop}(h:p:=by rw[hw1];exact(Aw _ _).alloc (Ar _) _):p:=h
theorem eP{p:Prop}(h:p:=by rw[hfin.o,e7];simp[h20]):p:=h
theorem eQ{p:Prop}(h:p:=by rw[hs];decide):p:=h
theorem eR{p:Prop}(h:p:=by simp[Act.put,u13,hrest]):p:=h
theorem eS{p:Prop}(h:p:=by rw[hw2,aA];exact Gj (by omega) X0.o):p:=h
theorem eT{p:Prop}(h:p:=by show w.heap.size<w3.heap.size;omega):p:=h
theorem eV{p:Prop}(h:p:=by have:=F2.o.2.2.2;omega):p:=h
theorem eW{p:Prop}(h:p:=by have:=Hb4.o.size;have:=HB0.o;omega):p:=h
theorem eX{p:Prop}(h:p:=by have:=Hbr.o.size;omega):p:=h
theorem eY{p:Prop}(h:p:=by rw[<-hwg];simp[go_sem]):p:=h
theorem eZ{p:Prop}(h:p:=by have:=Hk.o.size;have:=Hz7.o;omega):p:=h
theorem f8{p:Prop}(h:p:=by rw[decide_eq_false_iff_not];omega):p:=h
theorem f9{p:Prop}(h:p:=by rw[Gr];simp[Bg];omega):p:=h
theorem fc{p:Prop}(h:p:=by simp[Act.put,hpre,e6]):p:=h
theorem fe{p:Prop}(h:p:=by simp[Act.put,hpre,q2]):p:=h
theorem ff{p:Prop}(h:p:=by rw[HS9.o];exact ab _ _ _ _ (by first|exact aq HT7.o _|exact HT7.o)):p:=h
theorem fg{p:Prop}(h:p:=by first|exact Ar _|exact HbW4.o.size|(simp;done)|(simp;omega)|omega):p:=h
theorem fh{p:Prop}(h:p:=by rw[bne_iff_ne];omega):p:=h
theorem fi{p:Prop}(h:p:=by rw[hw1];simp[go_sem]):p:=h
theorem fj{p:Prop}(h:p:=by rw[hw4];simp[go_sem]):p:=h
theorem fl{p:Prop}(h:p:=by simp[Act.put,u8,u12]):p:=h
theorem fm{p:Prop}(h:p:=by simp[Md,Jl]):p:=h
theorem fq{p:Prop}(h:p:=by have:=(Hfl.o _ e.symm).1;omega):p:=h
theorem ft{p:Prop}(h:p:=by simpa using hp):p:=h
theorem fw{p:Prop}(h:p:=by simpa using hr):p:=h
theorem fx{p:Prop}(h:p:=by have:=Hbr.o.cell (p:=⟨b,o,none⟩) hp.2;rw[<-this];exact hu):p:=h
theorem fy{p:Prop}(h:p:=by rw[List.Nodup,List.pairwise_map];exact hs.imp fun h=>by omega):p:=h
theorem fz{p:Prop}(h:p:=by simp[Act.put,u2,u7]):p:=h
theorem fA{p:Prop}(h:p:=by simpa [hL]using hR0):p:=h
theorem fB{p:Prop}(h:p:=by first|exact hpre.1|exact hpre):p:=h
theorem fC{p:Prop}(h:p:=by have:=HBn.o;rcases e with e|e<;>first|omega|exact e.2 hq.1):p:=h
theorem fD{p:Prop}(h:p:=by rw[hq2];cases b1;rfl;have:=Hy.o;rw[Bk]at this;simp at this):p:=h
theorem fE{p:Prop}(h:p:=by simp[Hs.o]):p:=h
theorem fF{p:Prop}(h:p:=by unfold Mc;rw[h9];simp[Aj,hc]):p:=h
theorem fG{p:Prop}(h:p:=by have:=Hkl.o;omega):p:=h
theorem fH{p:Prop}(h:p:=by have:=HlL.o;omega):p:=h
theorem fI{p:Prop}(h:p:=by rw[hc6 w 0 (by simp;omega)];simp[go_sem,u0,hn1,hn2,hzz]):p:=h
theorem fJ{p:Prop}(h:p:=by rw[hc6 w 1 (by simp;omega)];simp[go_sem,u1,hn1,hn2,hzz]):p:=h
theorem fK{p:Prop}(h:p:=by rw[hc6 w 2 (by simp;omega)];simp[go_sem,u2,hn1,hn2,hzz]):p:=h
theorem fL{p:Prop}(h:p:=by cases vs with|nil=>exact absurd rfl h|cons=>simp at hl):p:=h
theorem fM{p:Prop}(h:p:=by rw[hW3];simp):p:=h
theorem fN{p:Prop}(h:p:=by have:=congrArg List.length h;simp[Eh,Mb]at this;omega):p:=h
theorem fO{p:Prop}(h:p:=by simp[h64]):p:=h
theorem fP{p:Prop}(h:p:=by rw[List.getElem_map];exact(Hk.o _ (ae hlt)).after hW):p:=h
theorem fQ{p:Prop}(h:p:=by simp[Act.put,u6]):p:=h
theorem fR{p:Prop}(h:p:=by injection e with e;omega):p:=h
theorem fS{p:Prop}(h:p:=by simp[Act.put,hpre,u7,q2]):p:=h
theorem fT{p:Prop}(h:p:=by unfold Ap;rw[hs0,hb];rfl):p:=h
theorem fU{p:Prop}(h:p:=by rw[hW3];go_simp):p:=h
theorem fV{p:Prop}(h:p:=by first|exact hpre.1.2|exact hpre.2.2|exact hpre.1):p:=h
theorem fW{p:Prop}(h:p:=by first|exact hpre.1.2|exact hpre.2.2|exact hpre.2):p:=h
theorem fX{p:Prop}(h:p:=by rintro rfl;simp at this):p:=h
theorem fY{p:Prop}(h:p:=by simp[Dl,Value.oneCell']):p:=h
theorem fZ{p:Prop}(h:p:=by simp[Mi,Value.oneCell']):p:=h
theorem gc{p:Prop}(h:p:=by simp[hy]):p:=h
theorem gd{p:Prop}(h:p:=by simp[hz]):p:=h
theorem ge{p:Prop}(h:p:=by decide +kernel):p:=h
theorem gf{p:Prop}(h:p:=by have:=Hc.o;rw[Hk.o,Bk]at this;simpa using this):p:=h
theorem gg{p:Prop}(h:p:=by rw[HS9.o];exact Ao _ (by omega) _ _ _ (B4.o _)):p:=h
theorem gh{p:Prop}(h:p:=by simp[Act.put,hpre,hwd]):p:=h
theorem gi{p:Prop}(h:p:=by simpa using hb):p:=h
theorem gj{p:Prop}(h:p:=by simpa using hf):p:=h
theorem gk{p:Prop}(h:p:=by obtain⟨k,rfl⟩:=hV;exact below_drewN hb0 k):p:=h
theorem gn{p:Prop}(h:p:=by have:=(h.row.lt B e.symm).1;have:=h.hB;omega):p:=h
theorem gp{p:Prop}(h:p:=by intro e;injection e with e;exact hne e.symm):p:=h
theorem gq{p:Prop}(h:p:=by intro h;rcases h with h|h;omega;exact hne h):p:=h
theorem gt{p:Prop}(h:p:=by obtain⟨_,_,_,_,_,hf⟩:=hsc;exact hf _ hm):p:=h
theorem gu{p:Prop}(h:p:=by rw[Hn.o,Hr.o]):p:=h
theorem gw{p:Prop}(h:p:=by rw[hpr]at hp;rw[hp]at hrl;simp at hrl;omega):p:=h
theorem gx{p:Prop}(h:p:=by have:=Hsp.o;have:=Hsl.o;simp at this;omega):p:=h
theorem gy{p:Prop}(h:p:=by simp[Ay,Di,Fa];omega):p:=h
theorem gz{p:Prop}(h:p:=by have:=hw.size;omega):p:=h
theorem gA{p:Prop}(h:p:=by rw[Hg.o];rfl):p:=h
theorem gB{p:Prop}(h:p:=by rw[List.length_map];exact Tc hS ht hf hp):p:=h
theorem gC{p:Prop}(h:p:=by rw[hw2];simp):p:=h
theorem gD{p:Prop}(h:p:=by simp[bne,t5]):p:=h
theorem gE{p:Prop}(h:p:=by simp[hp];rfl):p:=h
theorem gF{p:Prop}(h:p:=by simpa [hji]using hj):p:=h
theorem gG{p:Prop}(h:p:=by have e:10 ^ (8+1)=1000000000:=rfl;omega):p:=h
theorem gH{p:Prop}(h:p:=by have:=(Hps3.o.row.lt D e.symm).1;omega):p:=h
theorem gI{p:Prop}(h:p:=by have:=Ab Hyr2.o 2 rfl;simpa using this):p:=h
theorem gJ{p:Prop}(h:p:=by rw[<-hw3];exact(Aw _ _).alloc (Ar _) _):p:=h
theorem gK{p:Prop}(h:p:=by rw[ap]at hy;subst hy;exact ih _ _ h hx):p:=h
theorem gL{p:Prop}(h:p:=by rw[hw2];simp;omega):p:=h
theorem gM{p:Prop}(h:p:=by have e6:10 ^ (5+1)=1000000:=rfl;omega):p:=h
theorem gN{p:Prop}(h:p:=by have:=hst.1;omega):p:=h
theorem gO{p:Prop}(h:p:=by rw[Bk];cases bad;exact Q6;exact Ar _):p:=h
theorem gP{p:Prop}(h:p:=by rw[hW2];exact(Aw _ _).alloc (Ar _) _):p:=h
theorem gQ{p:Prop}(h:p:=by rw[hW5];exact(Aw _ _).alloc (Ar _) _):p:=h
theorem gR{p:Prop}(h:p:=by simp at hkl;omega):p:=h
theorem gS{p:Prop}(h:p:=by cases h):p:=h
theorem gT{p:Prop}(h:p:=by first|exact aq HT7.o _|exact HT7.o):p:=h
theorem gU{p:Prop}(h:p:=by rw[E4]at hl;simp[Fa,Am]at hl;omega):p:=h
theorem gV{p:Prop}(h:p:=by rw[h2s.o];decide):p:=h
theorem gW{p:Prop}(h:p:=by simp at hs;omega):p:=h
theorem gX{p:Prop}(h:p:=by simp[Dj,Vl.what]):p:=h
theorem gY{p:Prop}(h:p:=by simpa using heqI):p:=h
theorem gZ{p:Prop}(h:p:=by have:=hb1.size;simp at this;omega):p:=h
theorem hC{p:Prop}(h:p:=by have:=hb4.size;simp at this;omega):p:=h
theorem hJ{p:Prop}(h:p:=by rw[hfz4 w.heap.size j aO];simp[go_sem,hfz2,hfz,hzz,hz3]):p:=h
theorem hM{p:Prop}(h:p:=by rw[hc4 w 0 aO];simp[go_sem,hc2,hc,hzz,hz3]):p:=h
theorem hO{p:Prop}(h:p:=by rw[hc4 w 1 aO];simp[go_sem,hc2,hc,hzz,hz3]):p:=h
theorem hY{p:Prop}(h:p:=by rw[hc4 w 2 aO];simp[go_sem,hc2,hc,hzz,hz3]):p:=h
theorem hZ{p:Prop}(h:p:=by rw[hc4 w 3 aO];simp[go_sem,hc2,hc,hzz,hz3]):p:=h
theorem i7{p:Prop}(h:p:=by rw[hW3];exact(((Aw _ _).alloc (Ar _) _).alloc aL _).alloc aO _):p:=h
theorem ia{p:Prop}(h:p:=by rw[hfz w.heap.size j aL];simp):p:=h
theorem ib{p:Prop}(h:p:=by rw[hfz4 w2.heap.size j aL];simp):p:=h
theorem ic{p:Prop}(h:p:=by rw[IntWalk.u8_in _ aG];omega):p:=h
theorem ie{p:Prop}(h:p:=by rw[hc w 0 aL];simp):p:=h
theorem ig{p:Prop}(h:p:=by rw[hc w 1 aL];simp):p:=h
theorem ii{p:Prop}(h:p:=by rw[hc w 2 aL];simp):p:=h
theorem ij{p:Prop}(h:p:=by rw[hfz3 _ _ aG,hfz2 _ _ aL];go_simp):p:=h
theorem ik{p:Prop}(h:p:=by rw[hc4 w2 0 aL];simp):p:=h
theorem il{p:Prop}(h:p:=by rw[hc4 w2 1 aL];simp):p:=h
theorem im{p:Prop}(h:p:=by rw[hc4 w2 2 aL];simp):p:=h
theorem io{p:Prop}(h:p:=by rw[hc4 w2 3 aL];simp):p:=h
theorem ip{p:Prop}(h:p:=by rw[hcc _ _ aG,hc2 _ _ aL];go_simp):p:=h
theorem iq{p:Prop}(h:p:=by simpa [hL 5 aJ]using hR.1):p:=h
theorem ir{p:Prop}(h:p:=by
  go_simp
  first|exact hK _ _ _ rfl Ac HR.o rfl|exact kF hK HR.o|exact hK undef _ _ Ac Ac HR.o aI|exact hK _ _ _ Ac Ac HR.o rfl|exact kF hK HR.o):p:=h
theorem iu{p:Prop}(h:p:=by
  repeat (first|exact Av.nil|(refine Av.cons ?_ ?_;rotate_left))
  all_goals
   rintro L U W hL hpre HR Hdep K hK
   obtain⟨hR0,hG0,R3,R6⟩:=HR.o
   first|(simp[Region.binds]at hpre;done)|simp[Region.binds]at hpre|clear hpre
  iterate 2
   ·go_simp
    first|exact hK _ _ _ rfl Ac HR.o rfl|exact hK _ _ _ rfl Ac HR.o aV|exact hK undef _ _ Ac Ac HR.o aV|exact hK _ _ _ Ac Ac HR.o rfl|exact hK _ _ _ Ac Ac HR.o aV
  ·go_simp
   rw[if_pos aG]
   go_simp
   first|exact hK _ _ _ rfl Ac HR.o rfl|exact kF hK HR.o
  ·have hgl:=hR0.lt
   go_simp
   exact hK _ _ _ ⟨_,rfl⟩ Ac ⟨by simpa using hR0.dalloc _,Ae hG0 (World.grownBy_alloc W _ _),fun _=>⟨W.heap.size,rfl,by omega,Jf.new W Es⟩,fun h=>by obtain⟨b,y,q1,q2,q3,q4⟩:=R6 aR;exact⟨b,y,by simpa using q1,q2,q3,q4.grown (World.grownBy_alloc W _ (some g)) q2⟩⟩ rfl
  ·go_simp
   first|exact hK _ _ _ rfl Ac HR.o rfl|exact hK _ _ _ rfl Ac HR.o aV|exact hK undef _ _ Ac Ac HR.o aV|exact hK _ _ _ Ac Ac HR.o rfl|exact hK _ _ _ Ac Ac HR.o aV
  ·go_simp
   have hR1:Ez W g q9:=fA
   refine(Bu g q9 5 W hR1 aG aG aG).mono ?_
   rintro e w' ⟨y,rfl,hy1,_,hRy,hgy⟩
   exact hK _ _ _ ⟨y,rfl,by omega⟩ Ac ⟨by simpa using hRy,Ae hG0 hgy,fun h=>by obtain⟨b,q1,q2,q3⟩:=R3 aR;exact⟨b,by simpa using q1,q2,q3.grown hgy q2⟩,fun h=>by obtain⟨b,y,q1,q2,q3,q4⟩:=R6 aR;exact⟨b,y,by simpa using q1,q2,q3,q4.grown hgy q2⟩⟩ aI
  ·obtain⟨⟨l3,_⟩,l5,y,u5,hy⟩:=hpre
   obtain⟨b,u3,hb,hT⟩:=R3 l3
   have y1:(0:Int)<=(y:Int):=aG
   have y2:(y:Int)<5:=aG
   go_simp
   exact hK _ _ _ ⟨b,y,rfl⟩ Ac ⟨by simpa using hR0,hG0,fun h=>by obtain⟨b,q1,q2,q3⟩:=R3 aR;exact⟨b,by simpa using q1,q2,q3⟩,fun _=>⟨b,y,rfl,hb,hy,hT⟩⟩ ee
  ·obtain⟨l6,_⟩:=hpre
   obtain⟨b,y,u6,hb,hy,hT⟩:=R6 l6
   obtain⟨s7,hm7,hc7⟩:=hT.cell (show y<Es.length from hy)
   go_simp
   exact hK _ _ _ ⟨s7,hm7,rfl⟩ Ac ⟨by simpa using hR0,hG0,fun h=>by obtain⟨b,q1,q2,q3⟩:=R3 aR;exact⟨b,by simpa using q1,q2,q3⟩,fun h=>by obtain⟨b,y,q1,q2,q3,q4⟩:=R6 aR;exact⟨b,y,by simpa using q1,q2,q3,q4⟩⟩ fQ
  ·obtain⟨⟨_,u2⟩,_,i,hi,u7⟩:=hpre
   have hil:i.length<=1:=(show ∀i∈Es,i.length<=1 by decide) i hi
   go_simp
   rw[if_neg aO]
   go_simp
   exact hK _ _ _ ⟨i,hi,rfl⟩ Ac ⟨by simpa using hR0,hG0,fun h=>by obtain⟨b,q1,q2,q3⟩:=R3 aR;exact⟨b,by simpa using q1,q2,q3⟩,fun h=>by obtain⟨b,y,q1,q2,q3,q4⟩:=R6 aR;exact⟨b,y,by simpa using q1,q2,q3,q4⟩⟩ fz
  iterate 3
   ·go_simp
    first|exact hK _ _ _ rfl Ac HR.o rfl|exact hK _ _ _ rfl Ac HR.o aV|exact hK undef _ _ Ac Ac HR.o aV|exact hK _ _ _ Ac Ac HR.o rfl|exact hK _ _ _ Ac Ac HR.o aV
  ·go_simp
   rw[if_pos aG]
   go_simp
   first|exact hK _ _ _ rfl Ac HR.o rfl|exact kF hK HR.o
  ·obtain⟨⟨_,i,hi,u8⟩,_,u12⟩:=hpre
   have hil:i.length<=1:=(show ∀i∈Es,i.length<=1 by decide) i hi
   go_simp
   rw[if_neg aO]
   go_simp
   exact hK _ _ _ ⟨i,hi,rfl⟩ Ac ⟨by simpa using hR0,hG0,fun h=>by obtain⟨b,q1,q2,q3⟩:=R3 aR;exact⟨b,by simpa using q1,q2,q3⟩,fun h=>by obtain⟨b,y,q1,q2,q3,q4⟩:=R6 aR;exact⟨b,y,by simpa using q1,q2,q3,q4⟩⟩ fl
  ·obtain⟨⟨_,i,hi,u13⟩,hrest⟩:=hpre
   go_simp
   exact hK _ _ _ ⟨i,hi,rfl⟩ Ac ⟨by simpa using hR0,hG0,fun h=>by obtain⟨b,q1,q2,q3⟩:=R3 aR;exact⟨b,by simpa using q1,q2,q3⟩,fun h=>by obtain⟨b,y,q1,q2,q3,q4⟩:=R6 aR;exact⟨b,y,by simpa using q1,q2,q3,q4⟩⟩ eR):p:=h
theorem iv{p:Prop}(h:p:=by
  subst hz0
  go_wp2_with fail
  refine(Bu g ((q5+1)+1) _ _ HR8.o aG aG aG).mono ?_
  rintro e w9 ⟨k,rfl,hk1,_,hR9,hg9⟩
  have hk1:=hk1 aG
  have hk:k<s.length:=aG
  have i5:(0:Int)<=(k:Int):=aG
  have i6:(k:Int)<(s.length:Int):=aG
  obtain⟨q9,hq9,HR9⟩:∃q9,q9<=(q5+1)+2/\Hid (Ez w9 g q9):=⟨_,by omega,Aa hR9⟩
  have Hg9:=Aa (Ae Hg8.o hg9)
  clear hR9 hg9 HR8 Hg8
  have hwr:IntKind.i64.wrap ((k:Int)+1)=(k:Int)+1:=IntWalk.i64_in _ aG
  go_wp2_with fail
  refine Qr [38,39,40,41,42,43,44,45,46,47,48,49,50,51,2]
   (fun ix v W=>match ix with|0=>v=(s:List UInt8)|1=>v=(k:Int)|2=>v=(s.take k:List UInt8)|3=>∃b,v=.slice (some ⟨b,0,none⟩) 5 5|4=>v=g|5=>∃y:Nat,v=(y:Int)/\y<5|6=>∃b y,v=.pointer (some ⟨b,y,none⟩)|7=>∃i,i∈Es/\v=.string ⟨i.toArray⟩|8=>∃i,i∈Es/\v=.string ⟨(s.take k++i).toArray⟩|9=>v=(s:List UInt8)|10=>v=(k:Int)|11=>v=.int .i64 ((k:Int)+1)|12=>v=.string ⟨(s.drop (k+1):List UInt8).toArray⟩|13=>∃i,i∈Es/\v=.string ⟨(s.take k++(i++s.drop (k+1))).toArray⟩|14=>∃i,i∈Es/\v=.string ⟨(s.take k++(i++s.drop (k+1))).toArray⟩|_=>True)
   (fun L U W=>Ez W g (if L 5=true then q9+1 else q9)/\w.grownBy W (some g)/\(L 3=true->∃b,U 3=.slice (some ⟨b,0,none⟩) 5 5/\b≠g/\Jf W b Es)/\(L 6=true->∃b y,U 6=.pointer (some ⟨b,y,none⟩)/\b≠g/\y<5/\Jf W b Es)) (⟨by simpa using HR9.o.ddrew,Gh Hg9.o,fun h=>Bool.noConfusion h,fun h=>Bool.noConfusion h⟩) ?_ ?_
  ·repeat (first|exact Av.nil|(refine Av.cons ?_ ?_;rotate_left))
   all_goals
    rintro L U W hL hpre HR Hdep K hK
    obtain⟨hR0,hG0,R3,R6⟩:=HR.o
    first|(simp[Region.binds]at hpre;done)|simp[Region.binds]at hpre|clear hpre
   iterate 2
    ·go_simp
     first|exact hK _ _ _ rfl Ac HR.o rfl|exact hK _ _ _ rfl Ac HR.o aV|exact hK undef _ _ Ac Ac HR.o aV|exact hK _ _ _ Ac Ac HR.o rfl|exact hK _ _ _ Ac Ac HR.o aV
   ·go_simp
    rw[if_pos aG]
    go_simp
    first|exact hK _ _ _ rfl Ac HR.o rfl|exact kF hK HR.o
   ·have hgl:=hR0.lt
    go_simp
    exact hK _ _ _ ⟨_,rfl⟩ Ac ⟨by simpa using hR0.dalloc _,Ae hG0 (World.grownBy_alloc W _ _),fun _=>⟨W.heap.size,rfl,by omega,Jf.new W Es⟩,fun h=>by obtain⟨b,y,q1,q2,q3,q4⟩:=R6 aR;exact⟨b,y,by simpa using q1,q2,q3,q4.grown (World.grownBy_alloc W _ (some g)) q2⟩⟩ rfl
   ·go_simp
    first|exact hK _ _ _ rfl Ac HR.o rfl|exact hK _ _ _ rfl Ac HR.o aV|exact hK undef _ _ Ac Ac HR.o aV|exact hK _ _ _ Ac Ac HR.o rfl|exact hK _ _ _ Ac Ac HR.o aV
   ·go_simp
    have hR1:Ez W g q9:=fA
    refine(Bu g q9 5 W hR1 aG aG aG).mono ?_
    rintro e w' ⟨y,rfl,hy1,_,hRy,hgy⟩
    exact hK _ _ _ ⟨y,rfl,by omega⟩ Ac ⟨by simpa using hRy,Ae hG0 hgy,fun h=>by obtain⟨b,q1,q2,q3⟩:=R3 aR;exact⟨b,by simpa using q1,q2,q3.grown hgy q2⟩,fun h=>by obtain⟨b,y,q1,q2,q3,q4⟩:=R6 aR;exact⟨b,y,by simpa using q1,q2,q3,q4.grown hgy q2⟩⟩ aI
   ·obtain⟨⟨l3,_⟩,l5,y,u5,hy⟩:=hpre
    obtain⟨b,u3,hb,hT⟩:=R3 l3
    have y1:(0:Int)<=(y:Int):=aG
    have y2:(y:Int)<5:=aG
    go_simp
    exact hK _ _ _ ⟨b,y,rfl⟩ Ac ⟨by simpa using hR0,hG0,fun h=>by obtain⟨b,q1,q2,q3⟩:=R3 aR;exact⟨b,by simpa using q1,q2,q3⟩,fun _=>⟨b,y,rfl,hb,hy,hT⟩⟩ ee
   ·obtain⟨l6,_⟩:=hpre
    obtain⟨b,y,u6,hb,hy,hT⟩:=R6 l6
    obtain⟨s7,hm7,hc7⟩:=hT.cell (show y<Es.length from hy)
    go_simp
    exact hK _ _ _ ⟨s7,hm7,rfl⟩ Ac ⟨by simpa using hR0,hG0,fun h=>by obtain⟨b,q1,q2,q3⟩:=R3 aR;exact⟨b,by simpa using q1,q2,q3⟩,fun h=>by obtain⟨b,y,q1,q2,q3,q4⟩:=R6 aR;exact⟨b,y,by simpa using q1,q2,q3,q4⟩⟩ fQ
   ·obtain⟨⟨_,u2⟩,_,i,hi,u7⟩:=hpre
    have hil:i.length<=1:=(show ∀i∈Es,i.length<=1 by decide) i hi
    go_simp
    rw[if_neg aO]
    go_simp
    exact hK _ _ _ ⟨i,hi,rfl⟩ Ac ⟨by simpa using hR0,hG0,fun h=>by obtain⟨b,q1,q2,q3⟩:=R3 aR;exact⟨b,by simpa using q1,q2,q3⟩,fun h=>by obtain⟨b,y,q1,q2,q3,q4⟩:=R6 aR;exact⟨b,y,by simpa using q1,q2,q3,q4⟩⟩ fz
   iterate 3
    ·go_simp
     first|exact hK _ _ _ rfl Ac HR.o rfl|exact hK _ _ _ rfl Ac HR.o aV|exact hK undef _ _ Ac Ac HR.o aV|exact hK _ _ _ Ac Ac HR.o rfl|exact hK _ _ _ Ac Ac HR.o aV
   ·go_simp
    rw[if_pos aG]
    go_simp
    first|exact hK _ _ _ rfl Ac HR.o rfl|exact kF hK HR.o
   ·obtain⟨⟨_,i,hi,u8⟩,_,u12⟩:=hpre
    have hil:i.length<=1:=(show ∀i∈Es,i.length<=1 by decide) i hi
    go_simp
    rw[if_neg aO]
    go_simp
    exact hK _ _ _ ⟨i,hi,rfl⟩ Ac ⟨by simpa using hR0,hG0,fun h=>by obtain⟨b,q1,q2,q3⟩:=R3 aR;exact⟨b,by simpa using q1,q2,q3⟩,fun h=>by obtain⟨b,y,q1,q2,q3,q4⟩:=R6 aR;exact⟨b,y,by simpa using q1,q2,q3,q4⟩⟩ fl
   ·obtain⟨⟨_,i,hi,u13⟩,hrest⟩:=hpre
    go_simp
    exact hK _ _ _ ⟨i,hi,rfl⟩ Ac ⟨by simpa using hR0,hG0,fun h=>by obtain⟨b,q1,q2,q3⟩:=R3 aR;exact⟨b,by simpa using q1,q2,q3⟩,fun h=>by obtain⟨b,y,q1,q2,q3,q4⟩:=R6 aR;exact⟨b,y,by simpa using q1,q2,q3,q4⟩⟩ eR
  rintro L U W hL hφ hR
  obtain⟨i,hi,e14⟩:=hφ 14 aJ
  simp only[e14]
  have hR0:Ez W g (q9+1):=iq
  have hG0:=hR.2.1
  clear hφ hL hR
  go_wp2_with fail
  go_ret
  exact⟨_,q9+1,rfl,Va.turned Hs.o hk hi,by omega,hR0,hG0⟩):p:=h
theorem iw{p:Prop}(h:p:=by
  repeat (first|exact Av.nil|(refine Av.cons ?_ ?_;rotate_left))
  all_goals
   rintro L U W hL hpre HR Hdep K hK
   have q0:=(HR.o.be.cell (p:=⟨w.heap.size,0,none⟩) Hl0.o).trans X0.o
   have q1:=(HR.o.be.cell (p:=⟨w1.heap.size,0,none⟩) Hl1.o).trans X1.o
   have q2:=(HR.o.be.cell (p:=⟨w1.heap.size,1,none⟩) Hl1.o).trans X2.o
   have q3:=(HR.o.be.cell (p:=⟨w1.heap.size,2,none⟩) Hl1.o).trans X3.o
   first|(simp[Region.binds]at hpre;done)|simp[Region.binds]at hpre|clear hpre
  iterate 2
   ·go_simp
    first|exact hK _ _ _ rfl Ac HR.o rfl|exact kF hK HR.o|exact hK undef _ _ Ac Ac HR.o aI|exact hK _ _ _ Ac Ac HR.o rfl|exact kF hK HR.o
  ·go_simp
   rw[if_pos aG]
   go_simp
   exact hK (z:List UInt8) _ _ rfl Ac HR.o aI
  ·go_simp
   first|exact hK _ _ _ rfl Ac HR.o rfl|exact kF hK HR.o|exact hK undef _ _ Ac Ac HR.o aI|exact hK _ _ _ Ac Ac HR.o rfl|exact kF hK HR.o
  ·have h5:L 5=false:=Bv Hdep.o 5 4 rfl hL
   have h6:L 6=false:=Bv Hdep.o 6 5 rfl h5
   have h7:L 7=false:=Bv Hdep.o 7 5 rfl h5
   have h8:L 8=false:=Bv Hdep.o 8 5 rfl h5
   have h10:L 10=false:=Bv Hdep.o 10 6 rfl h6
   have h11:L 11=false:=Bv Hdep.o 11 7 rfl h7
   have h12:L 12=false:=Bv Hdep.o 12 8 rfl h8
   go_simp
   refine(HC.o _ HR.o.be).mono ?_
   rintro e w5 hp
   obtain⟨n,a,b,c,r,rfl,hF,hb⟩:=hp.q
   go_simp
   exact hK _ _ _ Ac Ac (HR.o.call h5 h6 h7 h8 h10 h11 h12 hF hb) aI
  ·have l4:L 4=true:=aK
   go_simp
   exact hK (U 4) _ _ Ac Ac (HR.o.move l4) aI
  ·have l5:L 5=true:=aK
   have l4:L 4=true:=Ke (Bv Hdep.o 5 4 rfl) l5
   obtain⟨n,a,b,c,r,u5,g0,g1,g2⟩:=HR.o.get l4 l5 (fun h=>Bv Hdep.o 10 6 rfl h)
   simp only[u5]
   go_simp
   exact hK _ _ _ Ac Ac (g0 hL) bT
  ·have l5:L 5=true:=aK
   have l4:L 4=true:=Ke (Bv Hdep.o 5 4 rfl) l5
   obtain⟨n,a,b,c,r,u5,g0,g1,g2⟩:=HR.o.get l4 l5 (fun h=>Bv Hdep.o 10 6 rfl h)
   simp only[u5]
   go_simp
   exact hK _ _ _ Ac Ac (g1) bT
  ·have l5:L 5=true:=aK
   have l4:L 4=true:=Ke (Bv Hdep.o 5 4 rfl) l5
   obtain⟨n,a,b,c,r,u5,g0,g1,g2⟩:=HR.o.get l4 l5 (fun h=>Bv Hdep.o 10 6 rfl h)
   simp only[u5]
   go_simp
   exact hK _ _ _ Ac Ac (g2) bT
  ·have h10:L 10=false:=Bv Hdep.o 10 9 rfl hL
   go_simp
   exact hK (.pointer (some ⟨W.heap.size,0,none⟩)) _ _ Ac Ac (HR.o.alloc h10 _) aI
  ·have l9:L 9=true:=aK
   have l6:L 6=true:=aK
   have l5:L 5=true:=Ke (Bv Hdep.o 6 5 rfl) l6
   have l4:L 4=true:=Ke (Bv Hdep.o 5 4 rfl) l5
   obtain⟨n,a,b,c,r,_,_,_,k6,_⟩:=HR.o.yes l4
   obtain⟨B,k9,_⟩:=HR.o.al l9
   have u6:=k6 l6
   obtain⟨g1,g2⟩:=HR.o.store l9 u6 k9
   rw[if_pos bQ]
   refine wp_store_mid 118 _ _ rfl B 0 ([(n:Int),a,b,c]:List Value).toArray k9 u6 g1 aM bB ?_
   exact hK undef _ _ Ac Ac g2 rfl
  ·have l7:L 7=true:=aK
   go_simp
   exact hK (U 7) _ _ Ac Ac (HR.o.as1 l7) aI
  ·have l8:L 8=true:=aK
   go_simp
   exact hK (U 8) _ _ Ac Ac (HR.o.as2 l8) aI):p:=h
theorem iy{p:Prop}(h:p:=by
  repeat (first|exact Av.nil|(refine Av.cons ?_ ?_;rotate_left))
  all_goals
   rintro L U W hL hpre hR hun hdep K hK
   have HR:=Aa hR
   have hB:=HR.o
   have Hun:=Aa hun
   have hBw:=Hbr.o.trans (hB.mono hzr)
   have d2:=(hBw.cell (p:=⟨b,2,none⟩) hb).trans C2.o
   have d3:=(hB.cell (p:=⟨b,3,none⟩) hbw).trans g3
   have d6:=(hB.cell (p:=⟨b6,o6+m,none⟩) hb6).trans C6.o
   have d8:=(hB.cell (p:=⟨b8,o8+m,none⟩) hb8).trans C8.o
   have Hdep:=Aa hdep
   clear hun hdep hR
   first|(simp[Region.binds]at hpre;done)|simp[Region.binds]at hpre|clear hpre
  ·have h20:L 20=false:=Hdep.o 20 _ rfl {on:=0,ground:=Ground.phase} aL bQ hL
   have u20:U 20=acc:=(Hun.o 20 h20).trans rfl
   go_simp
   exact hK acc _ _ rfl Ac HR.o (by simp[Act.put,u20])
  iterate 7
   ·go_simp
    first|exact hK _ _ _ rfl Ac HR.o rfl|exact kF hK HR.o|exact hK undef _ _ Ac Ac HR.o aI|exact hK _ _ _ Ac Ac HR.o rfl|exact kF hK HR.o
  ·go_simp
   refine(Hd.o W).mono ?_
   rintro e w3 ⟨rfl,hb3⟩
   exact hK _ _ _ rfl Ac (hB.trans (hb3.mono hB.size)) aI
  ·go_simp
   rw[if_neg bv]
   go_simp
   first|exact hK _ _ _ rfl Ac HR.o rfl|exact kF hK HR.o
  ·go_simp
   rw[if_neg bv]
   go_simp
   first|exact hK _ _ _ rfl Ac HR.o rfl|exact kF hK HR.o
  iterate 7
   ·go_simp
    first|exact hK _ _ _ rfl Ac HR.o rfl|exact kF hK HR.o|exact hK undef _ _ Ac Ac HR.o aI|exact hK _ _ _ Ac Ac HR.o rfl|exact kF hK HR.o
  ·go_simp
   refine(HX.o W hBw).mono ?_
   rintro e w3 ⟨rfl,hb3⟩
   exact hK _ _ _ rfl Ac (hB.trans (hb3.mono hB.size)) aI
  ·go_simp
   rw[if_neg bv]
   go_simp
   first|exact hK _ _ _ rfl Ac HR.o rfl|exact kF hK HR.o
  ·go_simp
   first|exact hK _ _ _ rfl Ac HR.o rfl|exact kF hK HR.o|exact hK undef _ _ Ac Ac HR.o aI|exact hK _ _ _ Ac Ac HR.o rfl|exact kF hK HR.o):p:=h
theorem iz{p:Prop}(h:p:=by
  repeat (first|exact Av.nil|(refine Av.cons ?_ ?_;rotate_left))
  all_goals
   rintro L U W hL hpre HR Hdep K hK
   first|(simp[Region.binds]at hpre;done)|simp[Region.binds]at hpre|clear hpre
  iterate 3
   ·go_simp
    first|exact hK _ _ _ rfl Ac HR.o aT|exact hK undef _ _ Ac Ac HR.o bh|exact hK _ _ _ Ac Ac HR.o rfl|exact hK _ _ _ Ac Ac HR.o bV
  ·go_simp
   rw[E1.o]
   exact hK _ _ _ rfl Ac HR.o aT
  ·go_simp
   first|exact hK _ _ _ rfl Ac HR.o aT|exact hK undef _ _ Ac Ac HR.o bh|exact hK _ _ _ Ac Ac HR.o rfl|exact hK _ _ _ Ac Ac HR.o bV
  ·obtain⟨R1,R2,R3⟩:=HR.o
   have hB:=R1 hL
   have h10:L 13=false:=Bv Hdep.o 13 5 rfl hL
   go_simp
   exact hK W.heap.size _ _ ⟨_,rfl⟩ Ac ⟨fun h=>by simp at h,fun _=>⟨W,rfl,hB,rfl⟩,fun h=>absurd (h10.symm.trans aR) aJ⟩ aI
  iterate 2
   ·go_simp
    first|exact hK _ _ _ rfl Ac HR.o aT|exact hK undef _ _ Ac Ac HR.o bh|exact hK _ _ _ Ac Ac HR.o rfl|exact hK _ _ _ Ac Ac HR.o bV
  ·go_simp
   rw[E2.o]
   exact hK _ _ _ rfl Ac HR.o aT
  iterate 2
   ·go_simp
    first|exact hK _ _ _ rfl Ac HR.o aT|exact hK undef _ _ Ac Ac HR.o bh|exact hK _ _ _ Ac Ac HR.o rfl|exact hK _ _ _ Ac Ac HR.o bV
  ·go_simp
   rw[E1.o]
   exact hK _ _ _ rfl Ac HR.o aT
  ·go_simp
   refine(Hn.o _).mono ?_
   rintro e wz ⟨rfl,rfl⟩
   go_simp
   exact hK _ _ _ rfl Ac HR.o aT
  ·obtain⟨R1,R2,R3⟩:=HR.o
   obtain⟨c,u5⟩:=hpre.1.2
   clear R1 R2 R3
   go_simp
   obtain⟨R1,R2,R3⟩:=HR.o
   exact hK (.pointer (some ⟨c,0,none⟩)) _ _ ⟨c,rfl⟩ Ac ⟨R1,R2,fun _=>u5.symm⟩ bT
  iterate 2
   ·go_simp
    first|exact hK _ _ _ rfl Ac HR.o aT|exact hK undef _ _ Ac Ac HR.o bh|exact hK _ _ _ Ac Ac HR.o rfl|exact hK _ _ _ Ac Ac HR.o bV):p:=h
theorem iA{p:Prop}(h:p:=by
  go_simp
  first|exact hK _ _ _ rfl Ac HR.o rfl|exact hK _ _ _ rfl Ac HR.o aV|exact hK undef _ _ Ac Ac HR.o aV|exact hK _ _ _ Ac Ac HR.o rfl|exact hK _ _ _ Ac Ac HR.o aV):p:=h
theorem iB{p:Prop}(h:p:=by
  go_simp
  first|exact hK _ _ _ rfl Ac HR.o rfl|exact kF hK HR.o|exact hK undef _ _ Ac Ac HR.o aI):p:=h
theorem iC{p:Prop}(h:p:=by
  repeat (first|exact Av.nil|(refine Av.cons ?_ ?_;rotate_left))
  all_goals
   rintro L U W hL hpre HR Hdep K hK
   first|(simp[Region.binds]at hpre;done)|simp[Region.binds]at hpre|clear hpre
  ·have h8:L 8=false:=Bv Hdep.o 8 0 rfl hL
   have hW:=HR.o.1 h8
   subst hW
   go_simp
   first|exact hK _ _ _ rfl Ac HR.o rfl|exact kF hK HR.o
  iterate 2
   ·go_simp
    first|exact hK _ _ _ rfl Ac HR.o rfl|exact kF hK HR.o|exact hK undef _ _ Ac Ac HR.o aI|exact hK _ _ _ Ac Ac HR.o rfl|exact kF hK HR.o
  ·go_simp
   rw[E2.o]
   first|exact hK _ _ _ rfl Ac HR.o rfl|exact kF hK HR.o
  iterate 4
   ·go_simp
    first|exact hK _ _ _ rfl Ac HR.o rfl|exact kF hK HR.o|exact hK undef _ _ Ac Ac HR.o aI|exact hK _ _ _ Ac Ac HR.o rfl|exact kF hK HR.o
  ·have hW:=HR.o.1 hL
   subst hW
   go_simp
   have HB6:=((((((Hb3.o.setCell (p:=⟨w.heap.size+1+1,0,none⟩) aO (n0:Int)).setCell (p:=⟨w.heap.size+1+1,1,none⟩) aO a).setCell (p:=⟨w.heap.size+1+1,2,none⟩) aO (.string ⟨b.toArray⟩)).setCell (p:=⟨w.heap.size+1+1,3,none⟩) aO c).alloc aO (.cells #[(n0:Int),a,.string ⟨b.toArray⟩,c] 118)).drew)
   refine hK undef _ _ Ac Ac ⟨fun h=>by simp at h,fun _=>⟨HB6,?_,?_,?_,?_⟩⟩ aI
   all_goals go_simp
  iterate 2
   ·go_simp
    first|exact hK _ _ _ rfl Ac HR.o rfl|exact kF hK HR.o|exact hK undef _ _ Ac Ac HR.o aI|exact hK _ _ _ Ac Ac HR.o rfl|exact kF hK HR.o):p:=h
theorem iD{p:Prop}(h:p:=by
  go_simp
  rw[if_neg bv]
  go_simp
  first|exact hK _ _ _ rfl Ac HR.o rfl|exact kF hK HR.o):p:=h
theorem iE{p:Prop}(h:p:=by
  repeat (first|exact Av.nil|(refine Av.cons ?_ ?_;rotate_left))
  all_goals
   rintro L U W hL hpre HR Hdep K hK
   first|(simp[Region.binds]at hpre;done)|simp[Region.binds]at hpre|clear hpre
  iterate 3
   ·go_simp
    first|exact hK _ _ _ rfl Ac HR.o rfl|exact kF hK HR.o|exact hK undef _ _ Ac Ac HR.o aI|exact hK _ _ _ Ac Ac HR.o rfl|exact kF hK HR.o
  ·obtain⟨R1,R2,R3⟩:=HR.o
   have hB:=R1 hL
   have h10:L 8=false:=Bv Hdep.o 8 3 rfl hL
   go_simp
   exact hK W.heap.size _ _ ⟨_,rfl⟩ Ac ⟨fun h=>by simp at h,fun _=>⟨W,rfl,hB,rfl⟩,fun h=>absurd (h10.symm.trans aR) aJ⟩ aI
  iterate 3
   ·go_simp
    first|exact hK _ _ _ rfl Ac HR.o rfl|exact kF hK HR.o|exact hK undef _ _ Ac Ac HR.o aI|exact hK _ _ _ Ac Ac HR.o rfl|exact kF hK HR.o
  ·go_simp
   rw[E2.o]
   first|exact hK _ _ _ rfl Ac HR.o rfl|exact kF hK HR.o
  ·obtain⟨R1,R2,R3⟩:=HR.o
   obtain⟨c,u5⟩:=hpre.1.2
   clear R1 R2 R3
   go_simp
   obtain⟨R1,R2,R3⟩:=HR.o
   exact hK (.pointer (some ⟨c,0,none⟩)) _ _ ⟨c,rfl⟩ Ac ⟨R1,R2,fun _=>u5.symm⟩ bT
  iterate 2
   ·go_simp
    first|exact hK _ _ _ rfl Ac HR.o rfl|exact kF hK HR.o|exact hK undef _ _ Ac Ac HR.o aI|exact hK _ _ _ Ac Ac HR.o rfl|exact kF hK HR.o):p:=h
theorem iF{p:Prop}(h:p:=by exact Ax results121 _ _ w.heap.size [.int .i64 0,aa,aa,aa,aa,aa] _ _ rfl rfl HZ.o underlying85 rfl aM):p:=h
theorem iG{p:Prop}(h:p:=by
  have l3:L 3=true:=aH
  obtain⟨bb,u3⟩:∃bb:Bool,U 3=.bool bb:=orB aH
  have l1:L 1=true:=by cases h:L 1 with|true=>rfl|false=>rw[D1 h]at l3;cases l3
  cases bb with
  |false=>
   simp only[u3]
   go_simp
   exact hK undef _ _ Ac Ac (HR.o.put undef aG aG l1 (fun e=>by rw[u3]at e;cases e) (Aw _ _)) bF
  |true=>
   simp only[u3]
   go_simp
   exact hK _ _ _ Ac Ac (HR.o.put _ aG aG l1 (fun _=>rfl) (Aw _ _)) bF):p:=h
theorem iH{p:Prop}(h:p:=by
  go_simp
  first|exact hK _ _ _ rfl Ac HR.o aT|exact hK undef _ _ Ac Ac HR.o bh|exact hK _ _ _ Ac Ac HR.o rfl|exact hK _ _ _ Ac Ac HR.o bV):p:=h
theorem iI{p:Prop}(h:p:=by
  go_simp
  have hR1:Ez W g q9:=fA
  refine(Bu g q9 5 W hR1 aG aG aG).mono ?_
  rintro e w' ⟨y,rfl,hy1,_,hRy,hgy⟩
  exact hK _ _ _ ⟨y,rfl,by omega⟩ Ac ⟨by simpa using hRy,Ae hG0 hgy,fun h=>by obtain⟨b,q1,q2,q3⟩:=R3 aR;exact⟨b,by simpa using q1,q2,q3.grown hgy q2⟩,fun h=>by obtain⟨b,y,q1,q2,q3,q4⟩:=R6 aR;exact⟨b,y,by simpa using q1,q2,q3,q4.grown hgy q2⟩⟩ aI):p:=h
theorem iJ{p:Prop}(h:p:=by
  obtain⟨⟨l3,_⟩,l5,y,u5,hy⟩:=hpre
  obtain⟨b,u3,hb,hT⟩:=R3 l3
  have y1:(0:Int)<=(y:Int):=aG
  have y2:(y:Int)<5:=aG
  go_simp
  exact hK _ _ _ ⟨b,y,rfl⟩ Ac ⟨by simpa using hR0,hG0,fun h=>by obtain⟨b,q1,q2,q3⟩:=R3 aR;exact⟨b,by simpa using q1,q2,q3⟩,fun _=>⟨b,y,rfl,hb,hy,hT⟩⟩ ee):p:=h
theorem iK{p:Prop}(h:p:=by
  repeat (first|exact Av.nil|(refine Av.cons ?_ ?_;rotate_left))
  all_goals
   rintro L U W hL hpre ⟨q,rfl⟩ hun hdep K hK
   have hlq:=hlook q
   clear hun hdep
   first|(simp[Region.binds]at hpre;done)|simp[Region.binds]at hpre|clear hpre
   go_simp
   first|exact hK _ _ _ rfl Ac ⟨q,rfl⟩ rfl|exact hK _ _ _ rfl Ac ⟨q,rfl⟩ bZ|exact hK undef _ _ Ac Ac ⟨q,rfl⟩ bZ|exact hK _ _ _ Ac Ac ⟨q,rfl⟩ rfl|exact hK _ _ _ Ac Ac ⟨q,rfl⟩ bZ):p:=h
theorem iL{p:Prop}(h:p:=by
  obtain⟨⟨_,i,hi,u13⟩,hrest⟩:=hpre
  go_simp
  exact hK _ _ _ ⟨i,hi,rfl⟩ Ac ⟨by simpa using hR0,hG0,fun h=>by obtain⟨b,q1,q2,q3⟩:=R3 aR;exact⟨b,by simpa using q1,q2,q3⟩,fun h=>by obtain⟨b,y,q1,q2,q3,q4⟩:=R6 aR;exact⟨b,y,by simpa using q1,q2,q3,q4⟩⟩ eR):p:=h
theorem iM{p:Prop}(h:p:=by
  obtain⟨R1,R2,R3⟩:=HR.o
  obtain⟨c,u5⟩:=hpre.1.2
  clear R1 R2 R3
  go_simp
  obtain⟨R1,R2,R3⟩:=HR.o
  exact hK (.pointer (some ⟨c,0,none⟩)) _ _ ⟨c,rfl⟩ Ac ⟨R1,R2,fun _=>u5.symm⟩ bT):p:=h
theorem iN{p:Prop}(h:p:=by
  have Hdec:=Aa (show decide (n<=200)=false by simp;omega)
  rw[Hdec.o]at Hpn
  go_wp2_with fail
  refine(Hpn.o _).mono ?_
  rintro e w3 ⟨rfl,rfl⟩
  go_wp2_with ((with_reducible refine Ad (op:=⟨none,.store 85 _ _,_,_,_,none⟩) rfl 85 _ _ rfl w 0 [.int .i64 0,aa,aa,aa,aa,aa] ?_ ?_ ?_ ?_ ?_ ?_);rfl;rfl;(first|exact aq HT.o _|exact HT.o);kernel_rfl;(simp[Value.oneCell']);intro w9 HS9)
  have HZ:=@Aa (w9.rangeAt w 0 [.int .i64 0,aa,aa,aa,aa,aa]) bq
  refine aE (v:=.tuple #[.agg ([.int .i64 0,aa,aa,aa,aa,aa]:List Value).toArray,.bool false]) ?_ rfl ?_
  ·exact Ax results121 _ _ w.heap.size [.int .i64 0,aa,aa,aa,aa,aa] _ _ rfl rfl HZ.o underlying85 rfl aM
  exact Em.no (Hno.o (fun m h=>by have h':=(Hhead.o m).1 h;have:=h'.1;cases this;omega)) rfl aY):p:=h
theorem iO{p:Prop}(h:p:=by
  obtain⟨⟨_,i,hi,u8⟩,_,u12⟩:=hpre
  have hil:i.length<=1:=(show ∀i∈Es,i.length<=1 by decide) i hi
  go_simp
  rw[if_neg aO]
  go_simp
  exact hK _ _ _ ⟨i,hi,rfl⟩ Ac ⟨by simpa using hR0,hG0,fun h=>by obtain⟨b,q1,q2,q3⟩:=R3 aR;exact⟨b,by simpa using q1,q2,q3⟩,fun h=>by obtain⟨b,y,q1,q2,q3,q4⟩:=R6 aR;exact⟨b,y,by simpa using q1,q2,q3,q4⟩⟩ fl):p:=h
theorem iP{p:Prop}(h:p:=by
  obtain⟨⟨_,u2⟩,_,i,hi,u7⟩:=hpre
  have hil:i.length<=1:=(show ∀i∈Es,i.length<=1 by decide) i hi
  go_simp
  rw[if_neg aO]
  go_simp
  exact hK _ _ _ ⟨i,hi,rfl⟩ Ac ⟨by simpa using hR0,hG0,fun h=>by obtain⟨b,q1,q2,q3⟩:=R3 aR;exact⟨b,by simpa using q1,q2,q3⟩,fun h=>by obtain⟨b,y,q1,q2,q3,q4⟩:=R6 aR;exact⟨b,y,by simpa using q1,q2,q3,q4⟩⟩ fz):p:=h
theorem iQ{p:Prop}(h:p:=by
  obtain⟨l6,_⟩:=hpre
  obtain⟨b,y,u6,hb,hy,hT⟩:=R6 l6
  obtain⟨s7,hm7,hc7⟩:=hT.cell (show y<Es.length from hy)
  go_simp
  exact hK _ _ _ ⟨s7,hm7,rfl⟩ Ac ⟨by simpa using hR0,hG0,fun h=>by obtain⟨b,q1,q2,q3⟩:=R3 aR;exact⟨b,by simpa using q1,q2,q3⟩,fun h=>by obtain⟨b,y,q1,q2,q3,q4⟩:=R6 aR;exact⟨b,y,by simpa using q1,q2,q3,q4⟩⟩ fQ):p:=h
theorem iR{p:Prop}(h:p:=by
  subst h0
  go_wp2_with fail
  refine(Hpn.o _).mono ?_
  rintro e w3 ⟨rfl,rfl⟩
  go_wp2_with ((with_reducible refine Ad (op:=⟨none,.store 85 _ _,_,_,_,none⟩) rfl 85 _ _ rfl w 0 [.int .i64 0,aa,aa,aa,aa,aa] ?_ ?_ ?_ ?_ ?_ ?_);rfl;rfl;(first|exact aq HT.o _|exact HT.o);kernel_rfl;(simp[Value.oneCell']);intro w9 HS9)
  have HZ:=@Aa (w9.rangeAt w 0 [.int .i64 0,aa,aa,aa,aa,aa]) bq
  refine aE (v:=.tuple #[.agg ([.int .i64 0,aa,aa,aa,aa,aa]:List Value).toArray,.bool false]) ?_ rfl ?_
  ·exact Ax results121 _ _ w.heap.size [.int .i64 0,aa,aa,aa,aa,aa] _ _ rfl rfl HZ.o underlying85 rfl aM
  exact Em.no (Hno.o (fun m h=>by have h':=(Hhead.o m).1 h;have:=h'.1;cases this;omega)) rfl aY):p:=h
theorem iS{p:Prop}(h:p:=by
  repeat (first|exact Av.nil|(refine Av.cons ?_ ?_;rotate_left))
  all_goals
   rintro L u W hL hpre hR K hK
   first|(simp[Region.binds]at hpre;done)|simp[Region.binds]at hpre|clear hpre
   rcases hl:L 9 with _|_
   all_goals
    first|exact absurd (hl.symm.trans hL) aJ|(
     rw[hl]at hR
     first|rw[if_neg aJ]at hR|rw[if_pos rfl]at hR
     have hR':=hR.symm
     subst hR'
     go_simp
     try (go_at_call 42;refine(Hk.o _).mono ?_;rintro e w' ⟨rfl,rfl⟩)
     first|(refine hK _ _ _ rfl Ac cn rfl;done)|(refine hK _ _ _ rfl Ac cn aI;done)|(refine hK undef _ _ rfl Ac cn aI;done))):p:=h
theorem iT{p:Prop}(h:p:=by
  have hgl:=hR0.lt
  go_simp
  exact hK _ _ _ ⟨_,rfl⟩ Ac ⟨by simpa using hR0.dalloc _,Ae hG0 (World.grownBy_alloc W _ _),fun _=>⟨W.heap.size,rfl,by omega,Jf.new W Es⟩,fun h=>by obtain⟨b,y,q1,q2,q3,q4⟩:=R6 aR;exact⟨b,y,by simpa using q1,q2,q3,q4.grown (World.grownBy_alloc W _ (some g)) q2⟩⟩ rfl):p:=h
theorem iU{p:Prop}(h:p:=by
  go_simp
  rw[if_pos aG]
  go_simp
  first|exact hK _ _ _ rfl Ac HR.o rfl|exact kF hK HR.o):p:=h
theorem iV{p:Prop}(h:p:=by
  have h8:L 8=false:=Bv Hdep.o 8 7 rfl hL
  have h9:L 9=false:=Bv Hdep.o 9 8 rfl h8
  have h10:L 10=false:=Bv Hdep.o 10 8 rfl h8
  have h11:L 11=false:=Bv Hdep.o 11 8 rfl h8
  have h12:L 12=false:=Bv Hdep.o 12 9 rfl h9
  have h13:L 13=false:=Bv Hdep.o 13 10 rfl h10
  have h14:L 14=false:=Bv Hdep.o 14 11 rfl h11
  have hW:=HR.o.no hL
  subst hW
  go_simp
  refine HCR.o.mono ?_
  rintro e w5 hp
  obtain⟨vp,vr,vk,rfl,hq⟩:=hp.q
  go_simp
  exact hK _ _ _ Ac Ac (Jm.call h8 h9 h10 h11 h12 h13 h14 hq) aI):p:=h
theorem iW{p:Prop}(h:p:=by
  have k2:¬(k:Int)<1+(x:Int):=aG
  have HRf:=Aa hR.o
  have Hgf:=Aa hg.o
  have HFf:=Aa hF.o
  go_wp2_with fail
  go_ret
  exact⟨l++[10],q,by simp,⟨HFf.o.sep aJ,by simp only[ah,List.length_cons,List.length_nil];omega,by simp⟩,by omega,HRf.o,Hgf.o⟩):p:=h
theorem iX{p:Prop}(h:p:=by
  have h5:L 5=false:=Bv Hdep.o 5 4 rfl hL
  have h6:L 6=false:=Bv Hdep.o 6 5 rfl h5
  have h7:L 7=false:=Bv Hdep.o 7 5 rfl h5
  have h8:L 8=false:=Bv Hdep.o 8 5 rfl h5
  have h10:L 10=false:=Bv Hdep.o 10 6 rfl h6
  have h11:L 11=false:=Bv Hdep.o 11 7 rfl h7
  have h12:L 12=false:=Bv Hdep.o 12 8 rfl h8
  go_simp
  refine(HC.o _ HR.o.be).mono ?_
  rintro e w5 hp
  obtain⟨n,a,b,c,r,rfl,hF,hb⟩:=hp.q
  go_simp
  exact hK _ _ _ Ac Ac (HR.o.call h5 h6 h7 h8 h10 h11 h12 hF hb) aI):p:=h
theorem iY{p:Prop}(h:p:=by
  have hW:=HR.o.1 hL
  subst hW
  go_simp
  have HB6:=((((((Hb3.o.setCell (p:=⟨w.heap.size+1+1,0,none⟩) aO (n0:Int)).setCell (p:=⟨w.heap.size+1+1,1,none⟩) aO a).setCell (p:=⟨w.heap.size+1+1,2,none⟩) aO (.string ⟨b.toArray⟩)).setCell (p:=⟨w.heap.size+1+1,3,none⟩) aO c).alloc aO (.cells #[(n0:Int),a,.string ⟨b.toArray⟩,c] 118)).drew)
  refine hK undef _ _ Ac Ac ⟨fun h=>by simp at h,fun _=>⟨HB6,?_,?_,?_,?_⟩⟩ aI
  all_goals go_simp):p:=h
theorem iZ{p:Prop}(h:p:=by
  repeat (first|exact Av.nil|(refine Av.cons ?_ ?_;rotate_left))
  all_goals
   rintro L U W hL hpre ⟨q,rfl⟩ hun hdep K hK
   have hlq:=hlook q
   clear hun hdep
   first|(simp[Region.binds]at hpre;done)|simp[Region.binds]at hpre|clear hpre
   go_simp
   first|exact hK _ _ _ rfl Ac ⟨q,rfl⟩ rfl|exact hK _ _ _ rfl Ac ⟨q,rfl⟩ aI|exact hK undef _ _ Ac Ac ⟨q,rfl⟩ aI|exact hK _ _ _ Ac Ac ⟨q,rfl⟩ rfl|exact hK _ _ _ Ac Ac ⟨q,rfl⟩ aI):p:=h
theorem j4{p:Prop}(h:p:=by
  have l9:L 9=true:=aK
  have l6:L 6=true:=aK
  have l5:L 5=true:=Ke (Bv Hdep.o 6 5 rfl) l6
  have l4:L 4=true:=Ke (Bv Hdep.o 5 4 rfl) l5
  obtain⟨n,a,b,c,r,_,_,_,k6,_⟩:=HR.o.yes l4
  obtain⟨B,k9,_⟩:=HR.o.al l9
  have u6:=k6 l6
  obtain⟨g1,g2⟩:=HR.o.store l9 u6 k9
  rw[if_pos bQ]
  refine wp_store_mid 118 _ _ rfl B 0 ([(n:Int),a,b,c]:List Value).toArray k9 u6 g1 aM bB ?_
  exact hK undef _ _ Ac Ac g2 rfl):p:=h
theorem j5{p:Prop}(h:p:=by
  have h12:L 12=false:=Bv Hdep.o 12 11 rfl hL
  have h13:L 13=false:=Bv Hdep.o 13 12 rfl h12
  have h16:L 16=false:=Bv Hdep.o 16 13 rfl h13
  have hW:=HR.o.s0 hL
  subst hW
  go_simp
  refine(HC.o g q _ HX9.o HR9.o aG).mono ?_
  rintro e w5 ⟨b5,v5,q5,rfl,k1,k2,k3,k4,k5,k6⟩
  exact hK _ _ _ Ac Ac (Nd.call Hg9.o HS9.o hgl h12 h13 h16 ⟨v5,rfl,k1,k2,k3⟩ k5 k6 k4) aI):p:=h
theorem j6{p:Prop}(h:p:=by
  by_cases hck:ca=k
  ·have e0:m - k=0:=aG
   rw[e0,show La.drop k=[]from List.drop_eq_nil_of_le aG]
   exact⟨rfl,ag _,fun h=>absurd h aL⟩
  rw[if_neg hck]
  have q:=(Hgar.o.below h.bel).sub k (m - k) aG
  rw[am]at q
  rw[show Ah (La.drop k)=((Ah La).drop k).take (m - k)by rw[show (Ah La).drop k=Ah (La.drop k)by simp[Ah,List.map_drop],ar dP]]
  exact q):p:=h
theorem j7{p:Prop}(h:p:=by
  by_cases hck:cb=k
  ·have e0:m - k=0:=aG
   rw[e0,show Lb.drop k=[]from List.drop_eq_nil_of_le aG]
   exact⟨rfl,ag _,fun h=>absurd h aL⟩
  rw[if_neg hck]
  have q:=(Hgbr.o.below h.bel).sub k (m - k) aG
  rw[am]at q
  rw[show Ah (Lb.drop k)=((Ah Lb).drop k).take (m - k)by rw[show (Ah Lb).drop k=Ah (Lb.drop k)by simp[Ah,List.map_drop],ar dP]]
  exact q):p:=h
theorem j8{p:Prop}(h:p:=by
  have l13:L 13=true:=ck
  have l12:L 12=true:=Ke (Bv Hdep.o 13 12 rfl) l13
  have l11:L 11=true:=Ke (Bv Hdep.o 12 11 rfl) l12
  obtain⟨b8,v8,q8,A6,c6,e6,_,_,_,hK6⟩:=HR.o.s3 l13 hL
  have x3:=hK6.c3
  have x4:=hK6.bk.live 3
  have x5:=hK6.lt
  go_simp
  exact hK undef _ _ Ac Ac (HR.o.store (Ar _) hgl l11 l12 l13 hL (by rw[e6])) fc):p:=h
theorem j9{p:Prop}(h:p:=by
  refine⟨rfl,by decide,fun _=>⟨b9,0,rfl,hb9,fun j u hj=>?_⟩⟩
  match j,hj with
  |0,hj=>simp at hj;subst hj;exact hc9):p:=h
theorem ja{p:Prop}(h:p:=by
  intro l u W hl hp hF hG hi K hK
  have hlk:=HL.o W (H20.o.trans (hF.o.mono H20.o.size))
  unfold El at hG
  simp[Region.binds,Cg]at hp
  go_simp
  exact hK _ _ _ rfl hF.o br):p:=h
theorem jb{p:Prop}(h:p:=by
  intro l u W hl hp hF hG hi K hK
  have hlk:=HL.o W (Hb.o.trans (hF.o.mono Hb.o.size))
  unfold El at hG
  simp[Region.binds,Cg]at hp
  go_simp
  exact hK _ _ _ rfl hF.o br):p:=h
theorem jc{p:Prop}(h:p:=by
  go_simp
  rw[E2.o]
  first|exact hK _ _ _ rfl Ac HR.o rfl|exact kF hK HR.o):p:=h
theorem jd{p:Prop}(h:p:=by
  have l11:L 11=true:=aK
  have h13:L 13=false:=Bv Hdep.o 13 12 rfl hL
  have h16:L 16=false:=Bv Hdep.o 16 13 rfl h13
  obtain⟨b5,e5,hn⟩:=HR.o.build l11 hL h13 h16
  simp only[e5]
  go_simp
  exact hK _ _ _ Ac Ac hn (by simp[Act.put,hpre,e5])):p:=h
theorem je{p:Prop}(h:p:=by
  obtain⟨R1,R2,R3⟩:=HR.o
  have hB:=R1 hL
  have h10:L 13=false:=Bv Hdep.o 13 5 rfl hL
  go_simp
  exact hK W.heap.size _ _ ⟨_,rfl⟩ Ac ⟨fun h=>by simp at h,fun _=>⟨W,rfl,hB,rfl⟩,fun h=>absurd (h10.symm.trans aR) aJ⟩ aI):p:=h
theorem jf{p:Prop}(h:p:=by
  obtain⟨R1,R2,R3⟩:=HR.o
  have hB:=R1 hL
  have h10:L 8=false:=Bv Hdep.o 8 3 rfl hL
  go_simp
  exact hK W.heap.size _ _ ⟨_,rfl⟩ Ac ⟨fun h=>by simp at h,fun _=>⟨W,rfl,hB,rfl⟩,fun h=>absurd (h10.symm.trans aR) aJ⟩ aI):p:=h
theorem jg{p:Prop}(h:p:=by
  go_simp
  refine(Hd.o W).mono ?_
  rintro e w3 ⟨rfl,hb3⟩
  exact hK _ _ _ rfl Ac (hB.trans (hb3.mono hB.size)) aI):p:=h
theorem jh{p:Prop}(h:p:=by
  have l5:L 5=true:=aK
  have l4:L 4=true:=Ke (Bv Hdep.o 5 4 rfl) l5
  obtain⟨n,a,b,c,r,u5,g0,g1,g2⟩:=HR.o.get l4 l5 (fun h=>Bv Hdep.o 10 6 rfl h)
  simp only[u5]
  go_simp
  exact hK _ _ _ Ac Ac (g0 hL) bT):p:=h
theorem ji{p:Prop}(h:p:=by
  have l5:L 5=true:=aK
  have l4:L 4=true:=Ke (Bv Hdep.o 5 4 rfl) l5
  obtain⟨n,a,b,c,r,u5,g0,g1,g2⟩:=HR.o.get l4 l5 (fun h=>Bv Hdep.o 10 6 rfl h)
  simp only[u5]
  go_simp
  exact hK _ _ _ Ac Ac (g1) bT):p:=h
theorem jk{p:Prop}(h:p:=by
  have l5:L 5=true:=aK
  have l4:L 4=true:=Ke (Bv Hdep.o 5 4 rfl) l5
  obtain⟨n,a,b,c,r,u5,g0,g1,g2⟩:=HR.o.get l4 l5 (fun h=>Bv Hdep.o 10 6 rfl h)
  simp only[u5]
  go_simp
  exact hK _ _ _ Ac Ac (g2) bT):p:=h
theorem jl{p:Prop}(h:p:=by
  have h20:L 20=false:=Hdep.o 20 _ rfl {on:=0,ground:=Ground.phase} aL bQ hL
  have u20:U 20=acc:=(Hun.o 20 h20).trans rfl
  go_simp
  exact hK acc _ _ rfl Ac HR.o (by simp[Act.put,u20])):p:=h
theorem jo{p:Prop}(h:p:=by
  have l8:L 8=true:=aK
  have l7:L 7=true:=Ke (Bv Hdep.o 8 7 rfl) l8
  obtain⟨vp,vr,vk,um,g0,g1,g2⟩:=HR.o.get l7 l8
  simp only[um]
  go_simp
  exact hK _ _ _ Ac Ac g0 cp):p:=h
theorem jp{p:Prop}(h:p:=by
  have l8:L 8=true:=aK
  have l7:L 7=true:=Ke (Bv Hdep.o 8 7 rfl) l8
  obtain⟨vp,vr,vk,um,g0,g1,g2⟩:=HR.o.get l7 l8
  simp only[um]
  go_simp
  exact hK _ _ _ Ac Ac g1 cp):p:=h
theorem jq{p:Prop}(h:p:=by
  have l8:L 8=true:=aK
  have l7:L 7=true:=Ke (Bv Hdep.o 8 7 rfl) l8
  obtain⟨vp,vr,vk,um,g0,g1,g2⟩:=HR.o.get l7 l8
  simp only[um]
  go_simp
  exact hK _ _ _ Ac Ac g2 cp):p:=h
theorem jr{p:Prop}(h:p:=by
  go_simp
  rw[if_pos aG]
  go_simp
  exact hK (z:List UInt8) _ _ rfl Ac HR.o aI):p:=h
theorem ju{p:Prop}(h:p:=by
  have h7:L 7=false:=Bv Hdep.o 7 0 rfl hL
  have hW:=HR.o.no h7
  subst hW
  go_simp
  first|exact hK _ _ _ rfl Ac HR.o rfl|exact kF hK HR.o):p:=h
theorem jv{p:Prop}(h:p:=by
  have h7:L 7=false:=Bv Hdep.o 7 4 rfl hL
  have hW:=HR.o.no h7
  subst hW
  go_simp
  first|exact hK _ _ _ rfl Ac HR.o rfl|exact kF hK HR.o):p:=h
theorem jw{p:Prop}(h:p:=by
  have h8:L 8=false:=Bv Hdep.o 8 0 rfl hL
  have hW:=HR.o.1 h8
  subst hW
  go_simp
  first|exact hK _ _ _ rfl Ac HR.o rfl|exact kF hK HR.o):p:=h
theorem jx{p:Prop}(h:p:=by
  have h13:L 13=false:=Bv Hdep.o 13 4 rfl hL
  have x3:=HR.o.c3 HS9.o h13
  go_simp
  first|exact hK _ _ _ rfl Ac HR.o rfl|exact kF hK HR.o):p:=h
theorem jy{p:Prop}(h:p:=by
  intro j y hj
  have e1:(⟨W.heap.size,0,none⟩:Addr).add j=⟨W.heap.size,j,none⟩:=bi
  rw[e1,World.cell?_alloc_new]
  simpa using hj):p:=h
theorem jz{p:Prop}(h:p:=by
  go_simp
  refine(Ih2.o _ (Hsc0.o.below hB)).mono ?_
  rintro e w3 ⟨rfl,hb3⟩
  exact hK _ _ _ rfl Ac (hB.trans (hb3.mono hB.size)) aI):p:=h
theorem jA{p:Prop}(h:p:=by
  go_simp
  rw[E1.o]
  exact hK _ _ _ rfl Ac HR.o aT):p:=h
theorem jB{p:Prop}(h:p:=by
  have h10:L 10=false:=Bv Hdep.o 10 9 rfl hL
  go_simp
  exact hK (.pointer (some ⟨W.heap.size,0,none⟩)) _ _ Ac Ac (HR.o.alloc h10 _) aI):p:=h
theorem jC{p:Prop}(h:p:=by
  have e:=Qn S 0 u a.tmps.toList i s v hn hsi
  rw[am]at e
  unfold B9 Act.put
  rw[hd]
  simp only[<-e]
  congr 1
  simp):p:=h
theorem jD{p:Prop}(h:p:=by
  go_simp
  refine(HX.o W hBw).mono ?_
  rintro e w3 ⟨rfl,hb3⟩
  exact hK _ _ _ rfl Ac (hB.trans (hb3.mono hB.size)) aI):p:=h
theorem jE{p:Prop}(h:p:=by
  go_simp
  refine(Hd.o _).mono ?_
  rintro e w3 ⟨rfl,hb3⟩
  exact hK _ _ _ rfl Ac (hB.trans (hb3.mono hB.size)) aI):p:=h
theorem jF{p:Prop}(h:p:=by have:=hc 1 _ rfl;simpa [Nat.add_assoc]using this):p:=h
theorem jG{p:Prop}(h:p:=by
  have e0:m - k=0:=aG
  rw[e0,show La.drop k=[]from List.drop_eq_nil_of_le aG]
  exact⟨rfl,ag _,fun h=>absurd h aL⟩):p:=h
theorem jH{p:Prop}(h:p:=by
  have e0:m - k=0:=aG
  rw[e0,show Lb.drop k=[]from List.drop_eq_nil_of_le aG]
  exact⟨rfl,ag _,fun h=>absurd h aL⟩):p:=h
theorem jI{p:Prop}(h:p:=by
  go_simp
  refine(Hn.o _).mono ?_
  rintro e wz ⟨rfl,rfl⟩
  go_simp
  exact hK _ _ _ rfl Ac HR.o aT):p:=h
theorem jJ{p:Prop}(h:p:=by exact⟨r2.os,r2.tape,r2.output,ad aL r2.size,fun k hk hne=>(r2.block k aO hne).trans (heap_alloc_old W _ hk)⟩):p:=h
theorem jK{p:Prop}(h:p:=by exact Ax results121 _ _ w.heap.size [(n:Int),b,k.signs,k.base,k.name,vl] _ _ rfl rfl HZ.o underlying85 rfl aM):p:=h
theorem jL{p:Prop}(h:p:=by
  rcases h.own with e|⟨y,e,hy⟩
  ·rw[e];exact h3
  rw[e];intro he;injection he with he;omega):p:=h
theorem jM{p:Prop}(h:p:=by
  go_simp
  exact hK _ _ _ rfl Ac hR aI):p:=h
theorem jN{p:Prop}(h:p:=by
  go_simp
  rw[if_pos aG]
  go_simp
  exact hK (kp:List UInt8) _ _ rfl Ac HR.o aI):p:=h
theorem jO{p:Prop}(h:p:=by have:=hc 2 _ rfl;simpa [Nat.add_assoc]using this):p:=h
theorem jP{p:Prop}(h:p:=by
  go_simp
  exact hK (d:Int) _ _ rfl Ac HR.o gh):p:=h
theorem jQ{p:Prop}(h:p:=by
  go_enter func151,ntmps151
  go_wp2_with fail
  go_ret
  exact⟨rfl,rfl⟩):p:=h
theorem jR{p:Prop}(h:p:=by
  have l10:L 10=true:=aK
  go_simp
  exact hK (U 10) _ _ Ac Ac (HR.o.as1 l10) aI):p:=h
theorem jS{p:Prop}(h:p:=by
  have l11:L 11=true:=aK
  go_simp
  exact hK (U 11) _ _ Ac Ac (HR.o.as2 l11) aI):p:=h
theorem jT{p:Prop}(h:p:=by
  have:=hac' i o ho e he hb
  have:=(Array.getElem?_eq_some_iff.1 ho).1
  omega):p:=h
theorem jU{p:Prop}(h:p:=by
  go_simp
  rw[Htk.o]
  first|exact hK _ _ _ rfl Ac HR.o rfl|exact kF hK HR.o):p:=h
theorem jV{p:Prop}(h:p:=by
  have l4:L 4=true:=aK
  go_simp
  exact hK (U 4) _ _ Ac Ac (HR.o.move l4) aI):p:=h
theorem jW{p:Prop}(h:p:=by have:=hc 0 _ rfl;simpa using this):p:=h
theorem jX{p:Prop}(h:p:=by
  have l7:L 7=true:=aK
  go_simp
  exact hK (U 7) _ _ Ac Ac (HR.o.as1 l7) aI):p:=h
theorem jY{p:Prop}(h:p:=by
  have l8:L 8=true:=aK
  go_simp
  exact hK (U 8) _ _ Ac Ac (HR.o.as2 l8) aI):p:=h
theorem jZ{p:Prop}(h:p:=by
  have l9:L 9=true:=aK
  go_simp
  exact hK (U 9) _ _ Ac Ac (HR.o.as0 l9) aI):p:=h
theorem ke{p:Prop}(h:p:=by
  have l7:L 7=true:=aK
  go_simp
  exact hK _ _ _ Ac Ac (HR.o.move l7) aI):p:=h
theorem kg{p:Prop}(h:p:=by
  have q:=(Hgar.o.below h.bel).sub 0 k aG
  simpa [Ah,List.map_take]using q):p:=h
theorem kh{p:Prop}(h:p:=by
  have q:=(Hgbr.o.below h.bel).sub 0 k aG
  simpa [Ah,List.map_take]using q):p:=h
theorem ki{p:Prop}(h:p:=by
  have:(W.alloc (.cells us.toArray e)).heap.size=W.heap.size+1:=aL
  omega):p:=h
theorem kj{p:Prop}(h:p:=by
  rw[if_pos h]
  simp at h
  have:¬t.length<12:=aG
  simp[this]):p:=h
theorem km{p:Prop}(h:p:=by
  go_simp
  exact hK _ _ _ rfl Ac hR rfl):p:=h
theorem kq{p:Prop}(h:p:=by exact(Ew (Fu tg)).2.2.1):p:=h
theorem kt{p:Prop}(h:p:=by
  go_simp
  first|exact hK _ _ _ rfl Ac HR.o rfl|exact kF hK HR.o):p:=h
theorem kx{p:Prop}(h:p:=by exact hin.o g hg):p:=h
theorem ky{p:Prop}(h:p:=by
  unfold B9
  rw[Pw S 0 _ _ fun k s hk=>by simp[List.getD,hk]]):p:=h
theorem kz{p:Prop}(h:p:=by subst ho;simp[World.cell?,hh]at c0):p:=h
theorem kA{p:Prop}(h:p:=by
  go_simp
  rw[E2.o]
  exact hK _ _ _ rfl Ac HR.o aT):p:=h
theorem kB{p:Prop}(h:p:=by exact⟨tg+1,by simp,by omega⟩):p:=h
theorem kC{p:Prop}(h:p:=by rw[e2]at e;have:=(Hps3.o.row.lt b e).1;have:=HBn.o;omega):p:=h
theorem kD{p:Prop}(h:p:=by
  rw[o2]at HQ
  subst o1
  exact Bz.no HQ rfl Hb7):p:=h
theorem kE{p:Prop}(h:p:=by have h1:=List.mem_of_find?_eq_some h;have h2:=List.find?_some h;exact⟨h1,by simpa using h2⟩):p:=h
theorem kG{p:Prop}(h:p:=by obtain⟨A,c,e,hl,hr⟩:=h;exact⟨A,c,e,hl,hr.below hb⟩):p:=h
theorem kH{p:Prop}(h:p:=by exact⟨rfl,rfl⟩):p:=h
theorem kI{p:Prop}(h:p:=by rw[List.length_erase_of_mem hx]at this;have:=List.length_pos_of_mem hx;simp only[List.length_cons];omega):p:=h
theorem kJ{p:Prop}(h:p:=by intro m hn hs;have hx:=hs x aL;have:=ih (m.erase x) (List.nodup_cons.1 hn).2 (fun y hy=>(List.mem_erase_of_ne dT).2 (hs y gc));rw[List.length_erase_of_mem hx]at this;have:=List.length_pos_of_mem hx;simp only[List.length_cons];omega):p:=h
theorem kK{p:Prop}(h:p:=by have:=ho p.1 p.2 hp;have e1:Fq S k (C5 p).tag=p.1.kind:=Cv ht (hf p hp);rw[show C5 (p.1,p.2)=C5 p from rfl,e1]at this;exact this):p:=h
theorem kL{p:Prop}(h:p:=by go_ret;exact⟨rfl,rfl⟩):p:=h
theorem kM{p:Prop}(h:p:=by go_ret;exact⟨Eu (Da Hf.o.symm),rfl⟩):p:=h
theorem kN{p:Prop}(h:p:=by rw[show c::(u++[d])=(c::u)++[d]from rfl,List.getLast?_append];rfl):p:=h
theorem kO{p:Prop}(h:p:=by go_ret;exact⟨Eu (Da gu),hb⟩):p:=h
theorem kP{p:Prop}(h:p:=by go_ret;exact⟨Eu (Da Hn.o.symm),Aw _ _⟩):p:=h
theorem kQ{p:Prop}(h:p:=by have h1:=Xu (s.take k).length (s.take k) rfl h;have h2:10 ^ (s.take k).length<=10 ^ 6:=Nat.pow_le_pow_right aG aO;have e6:10 ^ 6=1000000:=rfl;omega):p:=h
theorem kR{p:Prop}(h:p:=by exact⟨by rw[Hn.o];rfl,rfl⟩):p:=h
theorem kS{p:Prop}(h:p:=by exact hdone l u w hl (fun i hi=>hφ i (hl i hi) hi) hR):p:=h
theorem kT{p:Prop}(h:p:=by go_ret;exact⟨by rw[Hfin.o];rfl,(Aw _ _).alloc (Ar _) _⟩):p:=h
theorem kU{p:Prop}(h:p:=by go_ret;exact⟨rfl,Aw _ _⟩):p:=h
theorem kV{p:Prop}(h:p:=by go_ret;exact⟨by rw[HF.o];simp,by rw[HB0.o];exact Hb4.o⟩):p:=h
theorem kW{p:Prop}(h:p:=by go_ret;exact⟨by rw[HF.o];rfl,by rw[HB0.o];exact Hb4.o⟩):p:=h
theorem kX{p:Prop}(h:p:=by exact⟨by rw[Hfin.o];rfl,(Aw _ _).alloc (Ar _) _⟩):p:=h
theorem kY{p:Prop}(h:p:=by exact⟨by rw[Hr.o];rfl,((Hb.o.setCell (Ar _) _).setCell (Ar _) _).setCell (Ar _) _⟩):p:=h
theorem kZ{p:Prop}(h:p:=by go_ret;exact⟨by rw[Hend.o];first|rfl|trivial,hb.o⟩):p:=h
theorem lg{p:Prop}(h:p:=by exact⟨rfl,Aw _ _⟩):p:=h
theorem lh{p:Prop}(h:p:=by rw[Nw _ _ k hs (Pf hk hs hb).2];exact Qt xv xs k w hsc hk hs hb):p:=h
theorem li{p:Prop}(h:p:=by have hkf:Ch f.kind:=((hto.2.2.1.1 f cT).2.2.2.2 eD).1;exact ih aG f.kind W hW hkf hrf (V8 he hs hb hft h85 hfs hrf)):p:=h
theorem lj{p:Prop}(h:p:=by exact⟨0,by omega,by rw[Hn.o];rfl,(fun m h=>by rw[Hno.o]at h;cases h),Aw _ _⟩):p:=h
theorem ll{p:Prop}(h:p:=by go_ret;exact⟨Eu (Da (by rw[<-Hv.o,Ho.o];rfl)),Hb.o⟩):p:=h
theorem lm{p:Prop}(h:p:=by go_ret;exact⟨Eu (Da (by rw[Hv.o,Ho.o,Hq.o];rfl)),Aw _ _⟩):p:=h
theorem lp{p:Prop}(h:p:=by exact Dd.no Hno.o rfl ((((Hb.o.setCell (Ar _) _).setCell (Ar _) _).setCell (Ar _) _).setCell (Ar _) _)):p:=h
theorem lq{p:Prop}(h:p:=by exact Dd.no HF.o rfl aS):p:=h
theorem lr{p:Prop}(h:p:=by exact Eb.no HF.o rfl aP):p:=h
theorem lu{p:Prop}(h:p:=by have h2:=Hsl.o;omega):p:=h
theorem lx{p:Prop}(h:p:=by have h1:k≠(c::nm).length:=fun e=>hne (hiff.2 e);have h2:=Hsl.o;omega):p:=h
theorem lz{p:Prop}(h:p:=by exact(((hR.1.setCell hl8 _).setCell hl8 _).setCell hl8 _).setCell hl8 _):p:=h
theorem lA{p:Prop}(h:p:=by exact Em.no (Hno.o (fun n h=>by have:=((Hhead.o n).1 h).1;cases this)) rfl aY):p:=h
theorem lB{p:Prop}(h:p:=by exact Em.no (Hno.o (fun m h=>by have:=((Hhead.o m).1 h).2.2.2;cases this)) rfl bG):p:=h
theorem lC{p:Prop}(h:p:=by go_ret;exact⟨Eu (Da Hend.o.symm),hbr.o.alloc hzw _⟩):p:=h
theorem lD{p:Prop}(h:p:=by rw[hq]at hr;injection hr with e1 _;subst e1;exact .inr ⟨_,rfl,Ar _⟩):p:=h
theorem lE{p:Prop}(h:p:=by exact J0.no Hend.o rfl (below_drewN (hbr.o.trans (Hbo.o.mono aG)) _)):p:=h
theorem lG{p:Prop}(h:p:=by go_simp;first|exact hK _ _ _ rfl Ac ⟨q,fun _=>rfl,Hq2.o⟩ rfl|exact hK _ _ _ rfl Ac ⟨q,fun _=>rfl,Hq2.o⟩ aI):p:=h
theorem lH{p:Prop}(h:p:=by exact hK undef _ _ Ac Ac ⟨Ao _ (Ar _) _ _ _ r1,by rw[Cy];exact r2,ai r3 _ _ _,ak r4 _ _ _ (.inl (show w2.heap.size≠w.heap.size by omega)),r5.far (E0 _ _ _ W) aG,fun _=>ab _ _ _ _ r3⟩ rfl):p:=h
theorem lI{p:Prop}(h:p:=by go_ret;exact⟨_,rfl,by rw[Hfin.o];exact⟨b,off+k*6,rfl,hbl,Hrw.o⟩,rfl⟩):p:=h
theorem lJ{p:Prop}(h:p:=by go_ret;exact⟨rfl,((Aw _ _).alloc (Ar _) _).trans (hb1.mono aL)⟩):p:=h
theorem lK{p:Prop}(h:p:=by obtain⟨hc,_,hz⟩:=Ck hb;exact⟨hz _ h.lt,ad h.bs hb.size,h.hB,h.bk.belowAt h.lt hb,(hc _ _ h.lt).trans h.c0,(hc _ _ h.lt).trans h.c1,(hc _ _ h.lt).trans h.c2,(hc _ _ h.lt).trans h.c3,Ba h.row hb,fun x hx=>(h.kids x hx).after hb⟩):p:=h
theorem lL{p:Prop}(h:p:=by rw[e];intro e;injection e with e;omega):p:=h
theorem lM{p:Prop}(h:p:=by have:∀a b,Cq a<=Cq (a++b):=fun a b=>d7;exact this _ _):p:=h
theorem lN{p:Prop}(h:p:=by exact results_none aM _ _ _):p:=h
theorem lO{p:Prop}(h:p:=by rw[e2]at e;have e3:k=b:=Option.some.inj e;omega):p:=h
theorem lP{p:Prop}(h:p:=by exact aE (v:=.agg (Eg (.mk 91 [] 0 (As ys)) (.slice A ys.length c)).toArray) (Ai results97 _ _ (w.heap.size+1) _ _ rfl Z.2 underlying42 rfl aM) rfl Z.1):p:=h
theorem lQ{p:Prop}(h:p:=by go_simp;first|exact hK _ _ _ rfl Ac HR.o rfl|exact kF hK HR.o):p:=h
theorem lR{p:Prop}(h:p:=by exact aE (v:=.agg (Eg (.mk 91 [] 0 (As ys)) (.slice A5 ys.length c5)).toArray) (Ai results97 _ _ (w.heap.size+1) _ _ rfl Z.2 underlying42 rfl aM) rfl Z.1):p:=h
theorem lS{p:Prop}(h:p:=by go_simp;exact hK undef _ _ Ac Ac (by simpa using hst) aI):p:=h
theorem lT{p:Prop}(h:p:=by exact hK _ _ _ rfl Ac (hB.trans (hb5.mono hB.size)) aI):p:=h
theorem lU{p:Prop}(h:p:=by rw[List.head?_cons,Bool.eq_iff_iff,beq_iff_eq,decide_eq_true_iff];exact⟨fun h=>congrArg some (UInt8.toNat_inj.1 (by show c.toNat=63;omega)),fun h=>by injection h with h;rw[h];rfl⟩):p:=h
theorem lV{p:Prop}(h:p:=by exact aE (v:=.agg (Eg (.mk 91 [] 0 (As xs)) (.slice A xs.length c)).toArray) (Ai results24 _ _ (w.heap.size+1) _ _ rfl Z.2 underlying42 rfl aM) rfl Z.1):p:=h
theorem lX{p:Prop}(h:p:=by exact aE (v:=.agg (Eg (.mk 91 [] 0 (As ys)) (.slice A5 ys.length c5)).toArray) (Ai results24 _ _ (w.heap.size+1) _ _ rfl Z.2 underlying42 rfl aM) rfl Z.1):p:=h
theorem lY{p:Prop}(h:p:=by have Z:=Ma.fin (v:=.mk 85 [] tg (ks)) (sl:=.slice A2 n2 c2) U9.o.f hb0 HS9.o (U9.o.ks.mono fun c hc _=>by have:=U9.o.rV;omega);exact aE (v:=.agg (Eg (.mk 85 [] tg (ks)) (.slice A2 n2 c2)).toArray) (Ai results60 _ _ w.heap.size _ _ rfl Z.2.2 underlying42 rfl aM) rfl ⟨_,_,t3,rfl,Z.1,by rw[Hqf.o];exact Z.2.1,by rw[Hqf.o];simp,by omega⟩):p:=h
theorem lZ{p:Prop}(h:p:=by have Z:=Fy.finU (t:=t) (v:=v) (sl:=.slice A4 v.kids.length c4) (r:=q) F4.o hb0 HS9.o K4.o rfl hx4 hl4;exact aE (v:=.agg (Eg v (.slice A4 v.kids.length c4)).toArray) (Ai results24 _ _ (w.heap.size+1) _ _ rfl Z.2 underlying42 rfl aM) rfl Z.1):p:=h
theorem m7{p:Prop}(h:p:=by exact⟨by rw[HO2.o];rfl,Hbw.o⟩):p:=h
theorem m8{p:Prop}(h:p:=by go_ret;exact⟨0,rfl,by omega,fun _=>rfl,(Hw.o 0).1,(Hw.o 0).2⟩):p:=h
theorem m9{p:Prop}(h:p:=by go_ret;exact⟨rfl,Hb3.o⟩):p:=h
theorem ma{p:Prop}(h:p:=by go_ret;exact⟨rfl,by rw[hw.o];exact Hb3.o⟩):p:=h
theorem mc{p:Prop}(h:p:=by have hB:=h.hB;exact⟨by simpa using h.lt,by simpa using h.bs,h.hB,h.bk.set _,by simp[go_sem,h.c0],by simp[go_sem,h.c1],by simp[go_sem,h.c2],by simp[go_sem,h.c3],h.tags.kept hg (Nl (fun k hk=>(h.tags.lt k hk).1) h.hB),h.row.kept hg (Nl (fun k hk=>(h.row.lt k hk).1) h.hB),fun x hx=>(h.kids x hx).grown hg fun c hc e=>by injection e with e;omega⟩):p:=h
theorem me{p:Prop}(h:p:=by first|exact hpre.1|exact hpre.2):p:=h
theorem mf{p:Prop}(h:p:=by intro v6 w6 hown hg hwh;obtain⟨hn,A6,c6,e6⟩:=Nd.app (uc:=U 11) (ub:=U 12) (Ar _) hgl HS9.o.bs HS9.o hF hR8 hg8 hv8 hL8 l11 l12 h16 hown hg hwh;exact hK _ _ _ Ac Ac hn rfl):p:=h
theorem mg{p:Prop}(h:p:=by have x2:=HR.o.old h14 (show w1.heap.size<W4.heap.size by omega) aG X4.o;go_simp;first|exact hK _ _ _ rfl Ac HR.o rfl|exact kF hK HR.o):p:=h
theorem mh{p:Prop}(h:p:=by have hS:=(HS5.o.putK (K4.o.mono (Q:=fun c=>w1.heap.size+3<=c/\(Value.slice (some ⟨W9.heap.size,0,none⟩) 1 1).ownBlock≠some c) fun c hc _=>⟨by have:WC.heap.size<=c:=hc;omega,fun e=>by have:WC.heap.size<=c:=hc;injection e with e;simp only at e;omega⟩)).done aL aL;rw[Hsv.o f Hf.o];exact hS.mono fun c hc _=>aG):p:=h
theorem mi{p:Prop}(h:p:=by first|exact hK _ _ _ rfl Ac HR.o rfl|exact kF hK HR.o):p:=h
theorem mj{p:Prop}(h:p:=by exact Gx.leaf (P:=fun c=>w.heap.size<=c) aG):p:=h
theorem ml{p:Prop}(h:p:=by rw[Za,hkd,<-o3];exact Gx.leaf (P:=fun c=>w.heap.size<=c) aG):p:=h
theorem mm{p:Prop}(h:p:=by rw[Yd,hkd];exact Gx.leaf (P:=fun c=>w.heap.size<=c) aG):p:=h
theorem mn{p:Prop}(h:p:=by subst hW;go_simp;first|exact hK _ _ _ rfl Ac HR.o rfl|exact kF hK HR.o):p:=h
theorem mo{p:Prop}(h:p:=by exact Bz.no HN.o rfl ((Aw _ _).alloc (Ar _) _)):p:=h
theorem mp{p:Prop}(h:p:=by exact J4.of (b:=true) (HF.o.trans Hr.o) rfl rfl (Hs2.o.below ((Aw _ _).alloc (Ar _) _)) ba):p:=h
theorem mq{p:Prop}(h:p:=by simp only[u3];go_simp;exact hK undef _ _ Ac Ac (HR.o.put undef aG aG l1 (fun e=>by rw[u3]at e;cases e) (Aw _ _)) bF):p:=h
theorem mr{p:Prop}(h:p:=by exact hK _ _ _ Ac Ac hn rfl):p:=h
theorem mt{p:Prop}(h:p:=by go_ret;exact⟨(dt++58::(nm++[58]))++l,q+1,by simp,⟨Kv.kind Hpre2.o.1 Hpre2.o.2 Hl.o,by simp;omega⟩,by omega,HR3.o,Hg3.o⟩):p:=h
theorem mu{p:Prop}(h:p:=by exact⟨tg+1+a,by simp,by omega⟩):p:=h
theorem mv{p:Prop}(h:p:=by go_ret;exact⟨s,(q5+1)+1,rfl,Hs.o.o,by omega,HR8.o,Hg8.o⟩):p:=h
theorem mw{p:Prop}(h:p:=by exact⟨_,rfl,.inl ⟨rfl,HN.o⟩⟩):p:=h
theorem mx{p:Prop}(h:p:=by exact⟨HX,.inl ⟨rfl,HN.o⟩⟩):p:=h
theorem my{p:Prop}(h:p:=by have h:=Gf (.slice A xs.length c) xs k W' (hsc.below hW') hk;rw[hrf,hx]at h;exact h):p:=h
end Go.Proofs.YtkigmebejmmikaaGreatDoor
