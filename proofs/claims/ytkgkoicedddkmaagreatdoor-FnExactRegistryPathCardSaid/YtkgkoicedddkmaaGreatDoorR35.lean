/- Texts joined. Conditions: as each theorem names them. -/
import Derived.Deep.Slices
import Derived.Deep.Fields
import Derived.Test.YtkgkoicedddkmaaGreatDoorR33
import Derived.Test.YtkgkoicedddkmaaGreatDoorR34
set_option maxRecDepth 100000
set_option maxHeartbeats 32000000
set_option linter.unusedVariables false
set_option linter.unusedSimpArgs false
namespace Go.Proofs.YtkgkoicedddkmaaGreatDoor
open Go.RowKit Go.Proofs.Tryz
section
attribute [local go_sem] Qii
theorem FnExactRegistryPath_walk(w:World)(u:Value)(vs:List Ver)(h:Qhb w u vs)(hl:∀x∈vs,x.1.length<=maxLen/\x.2.length<=maxLen)(n:Int)(hn2:-9223372036854775808<=n/\n<=9223372036854775807)(x:List UInt8)(hx:x.length<=maxLen):
  Calls prog 5 #[.agg #[u],.int .i64 n,x] w fun e w'=>e=.returned (.bool true)/\Below w w w':=by
 have Hv:=Aa h;have Hl:=Aa hl;obtain⟨A,c,rfl,_,_,_⟩:=h;clear hl;obtain⟨hlo,hhi⟩:=hn2;unfold maxLen at hx;by_cases h20:x.length<=1048576;rotate_left
 ·have h20i:(1048576:Int)<(x.length:Int):=aH;go_enter func5,ntmps5;go_wp2_with fail;go_ret;exact⟨rfl,(Aq _ _).alloc (Ap _) _⟩
 have h20i:¬((1048576:Int)<(x.length:Int)):=aH;have H20:=Aa h20;go_enter func5,ntmps5;go_wp2_with fail;refine(Qi1 _ vs _ (Hv.o.below ((Aq _ _).alloc (Ap _) _)) Hl.o).mono ?_;rintro e w1 ⟨r,rfl,q1,q2,q3,hb1⟩;have Hq:=Aa q3;have Hb1:=Aa (((Aq w.heap.size w).alloc (Ap _) _).trans (hb1.mono aL));have t1:w1.cell? (w,0)=some (.slice A vs.length c):=(hb1.cell (p:=⟨w.heap.size,0,none⟩) aL).trans aL;have hz1:w.heap.size<w1.heap.size:=df;clear q3 hb1;by_cases hneg:r<0
 ·go_wp2_with fail;go_ret;exact⟨rfl,Hb1.o⟩
 obtain⟨hn0,hl0⟩:=Hq.o aH;have hn:vs.length<=1048576:=aH;have Hl4:=@Aa (∀x∈vs,x.1.length<=4000000/\x.2.length<=4000000) (fun x hx=>by have:=hl0 x hx;exact⟨by omega,by omega⟩);clear hl0 hn0;go_wp2_with fail;refine(Qig _ vs _ (Hv.o.below Hb1.o) hn).mono ?_;rintro e w2 ⟨v2,rfl,hv2,hb2⟩;have Hb2:=Aa (Hb1.o.trans (hb2.mono Hb1.o.size));have t2:w2.cell? (w,0)=some (.slice A vs.length c):=(hb2.cell (p:=⟨w.heap.size,0,none⟩) hz1).trans t1;have hz2:w.heap.size<w2.heap.size:=fS;have Hv2:=Aa hv2;obtain⟨A2,c2,rfl,_,_,_⟩:=hv2;clear hb2 t1;go_wp2_with fail;refine(Qj7 _ vs n x _ Hv2.o aH Hl4.o hlo hhi (ad H20.o aK)).mono ?_;rintro e w3 ⟨rfl,hb3⟩;have Hb3:=Aa (Hb2.o.trans (hb3.mono Hb2.o.size));have t3:w3.cell? (w,0)=some (.slice A vs.length c):=(hb3.cell (p:=⟨w.heap.size,0,none⟩) hz2).trans t2;have hz3:w.heap.size<w3.heap.size:=by have:=hb3.size;omega
 clear hb3 t2 Hv2;go_wp2_with fail;refine(Qig _ vs _ (Hv.o.below Hb3.o) hn).mono ?_;rintro e w4 ⟨v4,rfl,hv4,hb4⟩;have Hb4:=Aa (Hb3.o.trans (hb4.mono Hb3.o.size));have t4:w4.cell? (w,0)=some (.slice A vs.length c):=(hb4.cell (p:=⟨w.heap.size,0,none⟩) hz3).trans t3;have hz4:w.heap.size<w4.heap.size:=by have:=hb4.size;omega
 have Hv4:=Aa hv4;obtain⟨A4,n4,rfl,_,_,_⟩:=hv4;clear hb4 t3;go_wp2_with fail;refine(Qj4 _ vs n x _ (Hv4.o.below ((Aq _ _).alloc (Ap _) _)) aH Hl4.o hlo hhi (ad H20.o aK)).mono ?_;rintro e w5 ⟨rfl,hb5⟩;have Hb5:=Aa ((Hb4.o.alloc Hb4.o.size _).trans (hb5.mono (by have:=Hb4.o.size;simp;omega)));have t5:w5.cell? (w,0)=some (.slice A vs.length c):=(hb5.cell (p:=⟨w.heap.size,0,none⟩) aM).trans ((World.cell?_alloc_old _ _ _ (show w.heap.size≠w4.heap.size by omega)).trans t4);have t6:w5.cell? (w4,0)=some (.slice A4 vs.length n4):=(hb5.cell (p:=⟨w4.heap.size,0,none⟩) aL).trans aL;have hz5:w4.heap.size<w5.heap.size:=gz;have Hv5:=Aa ((Hv4.o.below ((Aq _ _).alloc (Ap _) _)).below hb5);generalize (Qhy vs n x).getD []=tx at *;generalize (Qhy vs n x).isSome=ok at *;clear hb5 t4 Hv4;go_wp2_with fail;have T0:=Aa t5;have T5:=Aa t6;have Lw:=Aa (show w.heap.size<w5.heap.size by omega);have L5:=Aa hz5;clear t5 t6;refine Ge [46,47,48,49,50]
  (fun ix v W=>match ix with|0=>v=.agg #[.slice A4 vs.length n4]|1=>v=.agg #[.slice A vs.length c]|2=>∃A n c,v=.agg #[.slice A n c]|3=>v=.bool true|4=>v=.bool false|_=>True)
  (fun L U W=>Below w5 w5 W/\(L 2=true->∃v3,U 2=.agg #[v3]/\Qhb W v3 vs)) (⟨(Aq _ _).drew,fun h=>Bool.noConfusion h⟩) ?_ ?_
 ·repeat (first|exact Ah.nil|(refine Ah.cons ?_ ?_;rotate_left))
  all_goals
   rintro L U W hL hpre HR Hdep K hK;obtain⟨hB,R2⟩:=HR.o;have t0:W.cell? (w,0)=some (.slice A vs.length c):=(hB.cell (p:=⟨w.heap.size,0,none⟩) Lw.o).trans T0.o;have t1:W.cell? (w4,0)=some (.slice A4 vs.length n4):=(hB.cell (p:=⟨w4.heap.size,0,none⟩) L5.o).trans T5.o;first|(simp[Region.binds]at hpre;done)|simp[Region.binds]at hpre|clear hpre
  iterate 2
   ·exact hG
  ·go_simp;refine(Qig _ vs W (Hv.o.below (Hb5.o.trans (hB.mono Hb5.o.size))) aH).mono ?_;rintro e w7 ⟨v3,rfl,hv3,hb5⟩;have hv3':=hv3;obtain⟨A3,c3,rfl,_⟩:=hv3';exact hK _ _ _ ⟨A3,_,c3,rfl⟩ Ac ⟨hB.trans (hb5.mono hB.size),fun _=>⟨_,rfl,hv3⟩⟩ aI
  ·obtain⟨⟨l0,u0⟩,l2,A3,n3,c3,u2⟩:=hpre;obtain⟨v3,hu,hv3⟩:=R2 l2;rw[u2]at hu;injection hu with hu;simp at hu;subst hu;go_simp;refine(Qi6 _ _ vs W (Hv5.o.below hB) hv3).mono ?_;rintro e w7 ⟨rfl,hb5⟩;exact hK _ _ _ rfl Ac ⟨hB.trans (hb5.mono hB.size),fun h=>⟨_,u2,hv3.below hb5⟩⟩ (by simp[Act.put,u0,u2])
  ·exact hG
 rintro L U W hL hφ hR;have e4:U 4=.bool false:=hφ 4 aK;simp only[e4];clear hφ;have hB:=hR.1;have Hbz:=Aa (Hb5.o.trans (hB.mono Hb5.o.size));clear hL hR hB;go_wp2_with fail;go_ret;exact⟨rfl,Hbz.o⟩
end
section
open Go.ChangeShapes Go.WideShapes Go.ChangeAt Go.RowKit Go.Deep
theorem Qke{b off j:Nat}:(⟨b,off,none⟩:Addr).add j=⟨b,off+j,none⟩:=bB
section
variable {H:Type} {enc:TypeId × Value->H} {W:World} {base:Nat} {v:Value} {d:DataW H} {ps:List MemPlace}
theorem Qkg{sp:Nat->Bool}{b0 n:Nat}{cs:List Value}{x:DataW H × List MemPlace}(h:DataW.trod enc prog W b0 sp true n 76 cs=some x):
  ∃a b:ByteArray,cs=[.string a,.string b]/\a.size<=maxLen/\b.size<=maxLen:=by
 obtain⟨xs,m,_,hx,hl,hlen,hg⟩:=DataW.trod_struct underlying76 h;have hc:prog.cellsOf 76=2:=aO;have hs:prog.cellsOf 9=1:=aO;rw[hc]at hl;match cs,hl with
 |[c0,c1],_=>
  have h0:=hg 0 _ rfl;have h1:=hg 1 _ rfl;simp[hs]at h0 h1;have l0:0<xs.length:=by rw[hlen];decide
  have l1:1<xs.length:=by rw[hlen];decide
  rw[List.getElem?_eq_getElem l0]at h0;rw[List.getElem?_eq_getElem l1]at h1;obtain⟨a,ha,_,za⟩:=DataW.trod_string underlying9 h0;obtain⟨b,hb,_,zb⟩:=DataW.trod_string underlying9 h1;simp at ha hb;exact⟨a,b,by rw[ha,hb],za,zb⟩
theorem arg_registry(hv:Value.okWide prog W .any base 29 v)(h:DataW.Trod enc prog W 0 (fun _=>true) true 29 v d ps):
  ∃(u:Value) (vs:List Ver),v=.agg #[u]/\Qhb W u vs/\∀x∈vs,x.1.length<=maxLen/\x.2.length<=maxLen:=by
 obtain⟨cs,rfl,hsz⟩:=okWide_struct underlying29 hv;have hc1:prog.cellsOf 29=1:=aO;have hc2:prog.cellsOf 27=1:=aO;have hc3:prog.cellsOf 76=2:=aO;rw[hc1]at hsz;obtain⟨c0,rfl⟩:∃c0,cs=#[c0]:=by
  obtain⟨l⟩:=cs;match l,hsz with
  |[c0],_=>exact⟨c0,rfl⟩
 obtain⟨fuel,hf⟩:=h;obtain⟨xs,n,_,hx,hl,hlen,hg⟩:=DataW.trod_struct underlying29 hf;have h0:=hg 0 _ rfl;simp[hc2,Value.cells]at h0;have l0:0<xs.length:=by rw[hlen];decide
 rw[List.getElem?_eq_getElem l0]at h0;rcases open_slice underlying27 h0 with⟨hcs,_⟩|⟨a,len,cap,m,n2,D,Pl,hcs,_,hlc,hcm,hmm,_,hi⟩
 ·simp at hcs;subst hcs;exact⟨_,[],rfl,⟨none,0,rfl,Ap _,ag _,fun h=>absurd h aL⟩,fun x hx=>by cases hx⟩
 simp at hcs;subst hcs;simp at hmm;subst hmm;have hP:∀i,i<m->∃p:Ver,W.cell? (a.add (i*2))=p.1/\W.cell? (a.add (i*2+1))=p.2/\p.1.length<=maxLen/\p.2.length<=maxLen:=by
  intro i him;obtain⟨cs',hcc,ht⟩:=hi i him;rw[hc3]at hcc;obtain⟨s0,s1,rfl,z0,z1⟩:=Qkg ht;obtain⟨_,_,hat⟩:=World.cells?_some hcc;have a0:=hat 0 aK;have a1:=hat 1 aK;rw[Go.Deep.add_add]at a0 a1;exact⟨(s0.data.toList,s1.data.toList),by simpa using a0,by simpa using a1,by simpa using z0,by simpa using z1⟩
 obtain⟨f,hf⟩:∃f:Nat->Ver,∀i,i<m->W.cell? (a.add (i*2))=some (.string ⟨(f i).1.toArray⟩)/\W.cell? (a.add (i*2+1))=some (.string ⟨(f i).2.toArray⟩)/\(f i).1.length<=maxLen/\(f i).2.length<=maxLen:=
  ⟨fun i=>if h:i<m then Classical.choose (hP i h)else([],[]),fun i h=>by simp only[dif_pos h];exact Classical.choose_spec (hP i h)⟩
 have hvl:((List.range len).map f).length=len:=aL;refine⟨_,(List.range len).map f,rfl,⟨some a,m,by rw[hvl],by rw[hvl];exact hlc,by rw[hvl];omega,fun hn=>?_⟩,fun x hx=>?_⟩
 ·rw[Sm Qie,hvl]at hn;have hlp:0<len:=aH;have q0:=(hf 0 aH).1;obtain⟨b,off,spot⟩:=a;have hspot:spot=none:=by simpa [Addr.add]using World.cell?_spot q0
  subst hspot;refine⟨b,off,rfl,?_,fun j u hu=>?_⟩
  ·have:=World.block_lt_of_cell? W _ q0;simpa [Addr.add]using this
  have hj:j<len*2:=by
   have:=(List.getElem?_eq_some_iff.1 hu).1;rwa [Sm Qie,hvl]at this
  have hjd:j=j / 2*2+j % 2:=aH;have hjl:j / 2<((List.range len).map f).length:=by rw[hvl];omega
  rw[hjd,So Qie _ (j / 2) (j % 2) hjl aH]at hu;obtain⟨q1,q2,_,_⟩:=hf (j / 2) aH;rw[Qke]at q1 q2;rw[hjd];rcases Nat.mod_two_eq_zero_or_one j with h2|h2
  ·rw[h2]at hu ⊢;simp[Qjl]at hu;rw[<-hu];exact q1
  rw[h2]at hu ⊢;simp[Qjl]at hu;rw[<-hu];exact q2
 obtain⟨i,hi',rfl⟩:=ax.1 hx;rw[List.mem_range]at hi';exact⟨(hf i aH).2.2.1,(hf i aH).2.2.2⟩
end
end
end Go.Proofs.YtkgkoicedddkmaaGreatDoor
