/- Texts joined. Conditions: as each theorem names them. -/
import Derived.Deep.MidRow
import Derived.Test.YtgfmljfjgohdcaaGreatDoorL21
set_option maxRecDepth 100000
set_option maxHeartbeats 32000000
set_option linter.unusedVariables false
set_option linter.unusedSimpArgs false
namespace Go.Proofs.YtgfmljfjgohdcaaGreatDoor
open Go.RowKit Go.Proofs.Tryz
section
attribute [local go_sem] Qls Qkr Qj4 Qig ByteArray.mk_append_mk
theorem Qco(c:UInt8)(r nm rest:List UInt8)(w:World)(hs:r.length<=3999999)(hc:Dt c)(h:Cy 61 r=(nm,rest,true))(hn:At nm=true)(hr:rest≠[]):
  Calls prog 135 #[.string ⟨(c::r).toArray⟩] w (Ep (Eg (c::r)) w):=by
 have HF:=Aa (Y6 hc h hn hr)
 have Hc:=Aa (fun W=>(show Calls prog 190 #[.string ⟨#[82,85,69]⟩,.string ⟨#[c]⟩] W fun e w'=>e=.returned (.bool true)/\W=w' from by
  have:=Nb [82,85,69] c W;rw[Tu,aB hc]at this;exact this))
 have Hcut:=Aa (fun W=>Q4 r 61 W aF);have hcl:=Ke 61 r;have Hcut2:=Aa h;rw[h]at Hcut hcl;simp only at hcl;have hcl1:=hcl.1;have hcl2:=hcl.2;have Hname:=Aa (fun W=>J4 nm W aF);rw[hn]at Hname;have Hsp:=Aa (fun W=>Rn rest 44 W aF);have hne:=D8 44 rest;have Hpl:=Aa (Ak 44 rest);have Hln:=Aa (Gi 44 rest);generalize Ai 44 rest=ps at HF Hsp hne Hpl Hln;have Hcs:=Aa hc;have hpsl:ps.length<=4000000:=by have:=Hln.o;omega
 have hr1:rest.isEmpty=false:=dp;have hr2:(rest == [])=false:=dp;clear h hn hr hc hcl;go_enter func135,ntmps135;go_wp2_with fail;refine(Hc.o _).mono ?_;rintro e w' ⟨rfl,rfl⟩;go_wp2_with fail;refine(Hcut.o _).mono ?_;rintro e w1 ⟨rfl,k1,rfl⟩;unfold Qb4;go_wp2_with fail;refine(Hname.o _).mono ?_;rintro e w2 ⟨rfl,hb2⟩;have Hb2:=@Aa (Below w w w2) ((below_drewN (Ar _ _) k1).trans (by simpa using hb2));have hz2:=Hb2.o.size;clear hb2;go_wp2_with fail;refine(Hsp.o _).mono ?_;rintro e w3 ⟨v,rfl,ho,hb3⟩;obtain⟨g,cg,rfl,hg1,hg2,hcells⟩:=Mn ho hne;have hg1':w2.heap.size+1<=g:=by simpa using hg1
 have hz3:w2.heap.size<w3.heap.size:=aF;have HT0:=@Aa (w3.rangeAt w2 0 [.int .u8 (c.toNat:Int),nm,.slice none 0 0,.string ⟨(c::r).toArray⟩]) (Ah (Bo w2 _ _) aH hb3);have HK0:=@Aa (w3.there w2 0 4) (An (B9 w2 [.int .u8 (c.toNat:Int),nm,.slice none 0 0,.string ⟨(c::r).toArray⟩] _) aH hb3);have HB0:=@Aa (Qi w3 w2.heap.size) ((Qi.new w2 _ _).belowAt aH hb3);have Hb3:=@Aa (Below w w w3) ((Hb2.o.alloc Hb2.o.size _).trans (hb3.mono aL));have Hcells:=@Aa (∀j (hj:j<ps.length),w3.cell? ⟨g,j,none⟩=some (.string ⟨ps[j].toArray⟩)) hcells;have Hown0:=Aa (World.ownsRow_nil w3 w3 107 6);clear ho hb3 hcells hg1 hne;go_wp2_with fail
 go_loopw [53] (fun i wr=>∃(k:Nat) (acc:List Fd) (fv:Value),i=.int .i64 k/\k<=ps.length/\acc.length<=8/\Hid (Eg (c::r)=Qjc c nm (Ew c (ps.drop k) acc)) /\
   Hid (wr.ownsRow w3 107 6 fv acc.length (acc.flatMap Sc))/\Hid (Below w w wr)/\w3.heap.size<=wr.heap.size /\
   Hid (∀j (hj:j<ps.length),wr.cell? ⟨g,j,none⟩=some (.string ⟨ps[j].toArray⟩)) /\
   Hid (wr.rangeAt w2 0 [.int .u8 (c.toNat:Int),nm,fv,.string ⟨(c::r).toArray⟩])/\Hid (wr.there w2 0 4)/\Hid (Qi wr w2.heap.size)) (fun i _=>ps.length - (intOf i).toNat)
 case atStart=>exact⟨0,[],.slice none 0 0,rfl,ae _,by simp,HF.o,Hown0.o,Hb3.o,Am _,Hcells.o,HT0.o,HK0.o,HB0.o⟩
 case round=>
  obtain⟨wo,rfl⟩:∃wo:World,wo=wr:=⟨_,rfl⟩
  obtain⟨k,acc,fv,rfl,hk,ha8,hft,hown,hbr,hzr,hpr,hT,hK,hB⟩:=hrel;have i1:(0:Int)<=(k:Int):=aF;obtain⟨A,cA,rfl,hrow⟩:=Cd.ownK hown.o aY;have Hrow:=Aa hrow;have t0:wo.cell? (w2,0)=some (.int .u8 (c.toNat:Int)):=by simpa using Ab hT.o 0 rfl
  have t2:wo.cell? (w2,2)=some (.slice A acc.length cA):=by simpa using Ab hT.o 2 rfl
  clear hrow;by_cases hlt:k<ps.length
  ·have i2:(k:Int)<(ps.length:Int):=aF;have cell:=hpr.o k hlt;have hft2:=Aa ((Qae (c:=c) (acc:=acc) hlt) ▸ hft.o);have hplk:=Hpl.o _ (ac hlt);generalize ps[k]=p at cell hft2 hplk;have Hread:=Aa (fun W=>Xy c Hcs.o p W aF);generalize Gh c p=o at hft2 Hread;go_wp2_with fail;refine(Hread.o _).mono ?_;rintro e w4 ⟨hcase,hb4⟩;have Hb4:=Aa (hbr.o.trans (hb4.mono hbr.o.size));cases o with
   |none=>
    obtain⟨n,a1,a2,a3,a4,a5,rfl⟩:=hcase;have Hend:=@Aa (Eg (c::r)=none) hft2.o;go_wp2_with fail;go_ret2;exact Ep.no Hend.o rfl (Hb4.o.alloc Hb4.o.size _)
   |some f=>
    have hcase':e=.returned (.tuple #[.agg #[(f.tag:Int),f.name,f.kind.signs,f.kind.base,f.kind.name,f.given],.bool true]):=hcase;subst hcase';clear hcase;have s0:=(hb4.cell (p:=⟨w2.heap.size,0,none⟩) (show w2.heap.size<wo.heap.size by omega)).trans t0;have s2:=(hb4.cell (p:=⟨w2.heap.size,2,none⟩) (show w2.heap.size<wo.heap.size by omega)).trans t2;have hz4:wo.heap.size<=w4.heap.size:=hb4.size;have hn4:¬(w2.heap.size=w4.heap.size):=aF;have hn5:w2.heap.size<w4.heap.size:=aF;have Hb4r:=Aa hb4;clear t0 t2 hb4;have hft3:=@Aa (Eg (c::r)=Qjc c nm (if acc.length=8\/Fg acc f=false then none else Ew c (ps.drop (k+1)) (acc++[f]))) hft2.o;clear hft2;rcases Nat.eq_or_lt_of_le ha8 with h8|h8
    ·have q1:((acc.length:Int) == 8)=true:=by simp[h8]
     have Hend:=Aa (hft3.o.trans (by rw[if_pos (.inl h8)]));clear h8;go_wp2_with fail;go_ret2;exact Ep.no Hend.o rfl (Hb4.o.alloc Hb4.o.size _)
    have q1:((acc.length:Int) == 8)=false:=bY;go_wp2_with fail;have f0:(w4.alloc (.cells #[(f.tag:Int),f.name,f.kind.signs,f.kind.base,f.kind.name,f.given] 107)).cell? (w4,0)=(f.tag:Int):=aH;have f1:(w4.alloc (.cells #[(f.tag:Int),f.name,f.kind.signs,f.kind.base,f.kind.name,f.given] 107)).cell? (w4,1)=f.name:=aH;have HR0:=Aa (Bo w4 [(f.tag:Int),f.name,f.kind.signs,f.kind.base,f.kind.name,f.given] 107);go_loopw [81] (fun jj wq=>∃j:Nat,jj=.int .i64 j/\j<=acc.length/\Hid (∀x∈acc.take j,x.name≠f.name/\x.tag<f.tag)/\Hid (Below w4 w4 wq)/\w4.heap.size<wq.heap.size/\Hid (wq.rangeAt w4 0 [(f.tag:Int),f.name,f.kind.signs,f.kind.base,f.kind.name,f.given])) (fun jj _=>acc.length - (intOf jj).toNat)
    case atStart=>exact⟨0,rfl,ae _,by intro x hx;simp at hx,(Ar _ _).alloc (Am _) _,by simp,HR0.o⟩
    case round=>
     clear f0 f1;obtain⟨j,rfl,hj,hin,hbq,hzq,hfr⟩:=hrel;have j1:(0:Int)<=(j:Int):=aF;have f0:wr.cell? (w4,0)=(f.tag:Int):=by simpa using Ab hfr.o 0 rfl
     have f1:wr.cell? (w4,1)=f.name:=by simpa using Ab hfr.o 1 rfl
     have hnq:¬(w4.heap.size=wr.heap.size):=aF;have Hbq:=Aa (Hb4.o.trans (hbq.o.mono Hb4.o.size));by_cases hjl:j<acc.length
     ·have j2:(j:Int)<(acc.length:Int):=aF;obtain⟨bA,oA,rfl,hbA,hrg⟩:=Qs.range ((Hrow.o.below Hb4r.o).below hbq.o) hjl;have Hts:=Aa (By acc j hjl);have Hmem:=Aa (ac hjl);have Hrg:=@Aa (wr.rangeAt bA (oA+j*6) [.int .i64 (acc[j].tag:Int),.string ⟨acc[j].name.toArray⟩,.string ⟨acc[j].kind.signs.toArray⟩,.string ⟨acc[j].kind.base.toArray⟩,.string ⟨acc[j].kind.name.toArray⟩,.string ⟨acc[j].given.toArray⟩]) hrg;clear hrg;generalize acc[j]=x at Hts Hmem Hrg;rcases Decidable.em (x.name=f.name)with hnm|hnm
      ·have q2:(x.name == f.name)=true:=by simp[hnm]
       have Hend:=Aa (hft3.o.trans (by rw[if_pos (.inr (Qaq Hmem.o (.inr hnm)))]));clear hnm;go_wp2_with ((with_reducible refine wpList_load_mid (op:=⟨_,.load 107 _,_,_,_,none⟩) rfl 107 _ rfl bA (oA+j*6) ?_ _ _ Hrg.o underlying107 ?_ ?_ ?_);rfl;rfl;kernel_rfl)
       go_ret2;exact Ep.no Hend.o rfl (Hbq.o.alloc Hbq.o.size _)
      have q2:(x.name == f.name)=false:=by simp[hnm]
      rcases aE x.tag f.tag with ht|ht
      ·have q3:decide ((f.tag:Int)<=(x.tag:Int))=false:=dF
       have Hin:=Aa (show ∀y∈acc.take (j+1),y.name≠f.name/\y.tag<f.tag from by
        intro y hy;rw[Hts.o]at hy;rcases ad.1 hy with hy|hy
        ·exact hin.o y hy
        simp at hy;subst hy;exact⟨hnm,ht⟩)
       clear hnm;go_wp2_with ((with_reducible refine wpList_load_mid (op:=⟨_,.load 107 _,_,_,_,none⟩) rfl 107 _ rfl bA (oA+j*6) ?_ _ _ Hrg.o underlying107 ?_ ?_ ?_);rfl;rfl;kernel_rfl)
       go_roundw
       case rel=>exact⟨j+1,by go_num,by omega,Hin.o,hbq.o.alloc (Nat.le_of_lt hzq) _,by simp;omega,Ah hfr.o hzq ((Ar wr.heap.size wr).alloc (Am _) _)⟩
       case measure=>simp[intOf];omega
      have q3:decide ((f.tag:Int)<=(x.tag:Int))=true:=by rw[decide_eq_true_iff];omega
      have Hend:=Aa (hft3.o.trans (by rw[if_pos (.inr (Qaq Hmem.o (.inl ht)))]));clear hnm;go_wp2_with ((with_reducible refine wpList_load_mid (op:=⟨_,.load 107 _,_,_,_,none⟩) rfl 107 _ rfl bA (oA+j*6) ?_ _ _ Hrg.o underlying107 ?_ ?_ ?_);rfl;rfl;kernel_rfl)
      go_ret2;exact Ep.no Hend.o rfl (Hbq.o.alloc Hbq.o.size _)
     ·have j2:¬(j:Int)<(acc.length:Int):=aF
      have Hft4:=Aa (show Eg (c::r)=Qjc c nm (Ew c (ps.drop (k+1)) (acc++[f]))from by
       rw[hft3.o,if_neg];rintro(h|h)
       ·omega
       rw[Qdh (fun y hy=>hin.o y (by rw[aq aF];exact hy))]at h;cases h)
      have hb1:Below wo wo wr:=Hb4r.o.trans (hbq.o.mono hz4);have Hown:=Aa (Co hown.o hb1);have Hpr:=@Aa (∀j (hj:j<ps.length),wr.cell? ⟨g,j,none⟩=some (.string ⟨ps[j].toArray⟩)) (fun j hj=>(hb1.cell (p:=⟨g,j,none⟩) (show g<wo.heap.size by omega)).trans (hpr.o j hj));have HT1:=Aa (Ah hT.o (show w2.heap.size<wo.heap.size by omega) hb1);have HB1:=Aa (hB.o.belowAt (show w2.heap.size<wo.heap.size by omega) hb1);have HK1:=Aa (An hK.o (show w2.heap.size<wo.heap.size by omega) hb1);have hz5:w3.heap.size<=wr.heap.size:=aF;have hz6:w.heap.size<=w3.heap.size:=aF;clear hb1 f0 f1;go_wp2_with fail;refine Bb [98,99,100,101,102,103,104,105,106,107,999] aJ aJ aJ (fun u=>by dsimp only[Bp,Bh,List.set,aj,Nat.reduceAdd])
       (fun i v W=>match i with|0=>v=w2.heap.size|1=>v=w2.heap.size|2=>v=w2.heap.size|3=>v=(w2,2)|4=>v=.slice A acc.length cA|5=>v=.agg #[(f.tag:Int),f.name,f.kind.signs,f.kind.base,f.kind.name,f.given]|8=>v=w2.heap.size|9=>v=(w2,2)|_=>True)
       (fun L U W=>Below w w W/\w3.heap.size<=W.heap.size/\(∀j (hj:j<ps.length),W.cell? ⟨g,j,none⟩=some (.string ⟨ps[j].toArray⟩))/\(W.there w2 0 4/\Qi W w2.heap.size) /\
        (L 10=false->W.rangeAt w2 0 [.int .u8 (c.toNat:Int),nm,.slice A acc.length cA,.string ⟨(c::r).toArray⟩])/\(L 10=true->W.rangeAt w2 0 [.int .u8 (c.toNat:Int),nm,U 7,.string ⟨(c::r).toArray⟩]) /\
        (L 5=false->W.rangeAt w4 0 [(f.tag:Int),f.name,f.kind.signs,f.kind.base,f.kind.name,f.given])/\(L 7=false->W.ownsRow w3 107 6 (.slice A acc.length cA) acc.length (acc.flatMap Sc))/\(L 7=true->W.ownsRow w3 107 6 (U 7) (acc.length+1) (acc.flatMap Sc++Sc f)) /\
        (L 6=true->L 7=false->∃q,U 6=.slice (some ⟨q,0,none⟩) 1 1/\W.rangeAt q 0 [(f.tag:Int),f.name,f.kind.signs,f.kind.base,f.kind.name,f.given]))
       (fun _ _=>True) (fun w w' _ i v h=>by revert h;exact fun h=>h) ⟨Hbq.o.drew,hz5,Hpr.o,⟨HK1.o,HB1.o⟩,fun _=>HT1.o,by simp,fun _=>hfr.o,fun _=>Hown.o,by simp,by simp⟩ ?_ ?_
      ·repeat (first|exact Ap.nil|(refine Ap.cons ?_ ?_;rotate_left))
       all_goals
        rintro L U W hL hpre hR hun hdep K hK;have Hdep:=Aa hdep;have HR:=Aa hR;clear hun hdep hR;first|(simp[Region.binds]at hpre;done)|simp[Region.binds]at hpre|clear hpre
       ·go_simp;exact hK _ _ _ rfl Ac HR.o rfl
       ·go_simp;exact hK _ _ _ rfl Ac HR.o rfl
       ·have u1:=hpre.2;go_simp;exact hK w2.heap.size _ _ rfl Ac HR.o (by simp[Act.put,u1])
       ·have u2:=hpre.2;go_simp;exact hK (w2,2) _ _ rfl Ac HR.o (by simp[Act.put,u2])
       ·have h10:=(Dn Hdep.o 10 7 rfl (Dn Hdep.o 7 4 rfl hL))
        obtain⟨r1,r2,r3,r4,r5,r6,r7,r8,r9,r0⟩:=HR.o;have u3:=hpre.2;have c2:W.cell? (w2,2)=some (.slice A acc.length cA):=by simpa using Ab (r5 h10) 2 rfl
        clear r1 r2 r3 r4 r5 r6 r7 r8 r9 r0;go_simp;exact hK (.slice A acc.length cA) _ _ rfl Ac HR.o (by simp[Act.put,u3])
       ·obtain⟨r1,r2,r3,r4,r5,r6,r7,r8,r9,r0⟩:=HR.o;rw[if_pos d9];refine wp_load_mid 107 _ rfl w4 0 rfl [(f.tag:Int),f.name,f.kind.signs,f.kind.base,f.kind.name,f.given] _ (r7 hL) underlying107 rfl aJ ?_;exact hK (.agg ([(f.tag:Int),f.name,f.kind.signs,f.kind.base,f.kind.name,f.given]:List Value).toArray) _ _ rfl Ac ⟨r1,r2,r3,r4,r5,r6,fun h=>by simp at h,r8,r9,r0⟩ rfl
       ·obtain⟨r1,r2,r3,r4,r5,r6,r7,r8,r9,r0⟩:=HR.o;have R1:=Aa r1;have u5:=hpre.2;have HF5:=Aa (Bo W [(f.tag:Int),f.name,f.kind.signs,f.kind.base,f.kind.name,f.given] 107)
        have HRR:=Aa (show (∀j (hj:j<ps.length),(W.alloc (.cells #[(f.tag:Int),f.name,f.kind.signs,f.kind.base,f.kind.name,f.given] 107)).cell? ⟨g,j,none⟩=some (.string ⟨ps[j].toArray⟩))/\((W.alloc (.cells #[(f.tag:Int),f.name,f.kind.signs,f.kind.base,f.kind.name,f.given] 107)).there w2 0 4/\Qi (W.alloc (.cells #[(f.tag:Int),f.name,f.kind.signs,f.kind.base,f.kind.name,f.given] 107)) w2.heap.size) /\
         (L 10=false->(W.alloc (.cells #[(f.tag:Int),f.name,f.kind.signs,f.kind.base,f.kind.name,f.given] 107)).rangeAt w2 0 [.int .u8 (c.toNat:Int),nm,.slice A acc.length cA,.string ⟨(c::r).toArray⟩])/\(L 10=true->(W.alloc (.cells #[(f.tag:Int),f.name,f.kind.signs,f.kind.base,f.kind.name,f.given] 107)).rangeAt w2 0 [.int .u8 (c.toNat:Int),nm,U 7,.string ⟨(c::r).toArray⟩]) /\
         (L 5=false->(W.alloc (.cells #[(f.tag:Int),f.name,f.kind.signs,f.kind.base,f.kind.name,f.given] 107)).rangeAt w4 0 [(f.tag:Int),f.name,f.kind.signs,f.kind.base,f.kind.name,f.given])/\(L 7=false->(W.alloc (.cells #[(f.tag:Int),f.name,f.kind.signs,f.kind.base,f.kind.name,f.given] 107)).ownsRow w3 107 6 (.slice A acc.length cA) acc.length (acc.flatMap Sc))/\(L 7=true->(W.alloc (.cells #[(f.tag:Int),f.name,f.kind.signs,f.kind.base,f.kind.name,f.given] 107)).ownsRow w3 107 6 (U 7) (acc.length+1) (acc.flatMap Sc++Sc f))
         from⟨fun j hj=>by rw[World.cell?_alloc_old _ _ _ (show g≠W.heap.size by omega)];exact r3 j hj,⟨ap r4.1 _,r4.2.belowAt (show w2.heap.size<W.heap.size by omega) ((Ar _ _).alloc (Am _) _)⟩,fun h=>World.rangeAt_alloc (r5 h) _,fun h=>World.rangeAt_alloc (r6 h) _,fun h=>World.rangeAt_alloc (r7 h) _,fun h=>(r8 h).alloc _,fun h=>(r9 h).alloc _⟩)
        clear r1 r3 r4 r5 r6 r7 r8 r9 r0;go_simp;refine hK (.slice (W,0) 1 1) _ _ Ac Ac ⟨R1.o.alloc R1.o.size _,by simp;omega,HRR.o.1,HRR.o.2.1,HRR.o.2.2.1,HRR.o.2.2.2.1,HRR.o.2.2.2.2.1,HRR.o.2.2.2.2.2.1,HRR.o.2.2.2.2.2.2,fun _ _=>⟨W.heap.size,rfl,HF5.o⟩⟩ (by simp[Act.put,u5])
       ·obtain⟨r1,r2,r3,r4,r5,r6,r7,r8,r9,r0⟩:=HR.o;have h10:=(Dn Hdep.o 10 7 rfl hL)
        have h7:=r8 hL;obtain⟨q,e1,e2⟩:=r0 hpre.2 hL;obtain⟨i0,hi,hz0,hz1,hz2'⟩:=info_parts Tryz.infoIf;rw[if_pos d9];refine wp_append_own W (.tmp 102) (.tmp 104) 103 rfl w3 107 i0 (.agg #[.int .i64 0,a6,a6,a6,a6,a6]) 6 88 underlying103 hi hz0 hz1 hz2' rfl aI (.slice A acc.length cA) acc.length (acc.flatMap Sc) hpre.1.2 h7 ⟨q,0,none⟩ 1 1 (Sc f) e1 (by simp[Sc]) ?_ (fun y hy=>Qi2 [f] y (by simpa using hy)) aY aF r2 ?_
        ·intro i x hx;rw[Qej];have:=e2 i x hx;simpa using this
        intro v' w' hown' hgr _;have hbw:Below w3 W w':=(Ar _ _).grown hgr r2 (fun k hk=>(h7.lt k hk).1);refine hK v' w' _ Ac Ac ⟨r1.trans (hbw.mono hz6),aa r2 hbw.size,fun j hj=>(hbw.cell (p:=⟨g,j,none⟩) (show g<w3.heap.size by omega)).trans (r3 j hj),⟨An r4.1 hz3 hbw,r4.2.belowAt hz3 hbw⟩,fun h=>Ah (r5 h) hz3 hbw,fun h=>absurd h10 (by rw[show L 10=true from h];decide),fun h=>absurd hpre.2 (by rw[Dn Hdep.o 6 5 rfl h];decide),fun h=>by simp at h,fun _=>hown',fun _ h=>by simp at h⟩ rfl
       ·have u0:=hpre.1.2;go_simp;exact hK w2.heap.size _ _ rfl Ac HR.o aG
       ·have u8:=hpre.2;go_simp;exact hK (w2,2) _ _ rfl Ac HR.o aG
       ·obtain⟨r1,r2,r3,r4,r5,r6,r7,r8,r9,r0⟩:=HR.o;have R1:=Aa r1;have l7:L 7=true:=by first|exact hpre.2.1|exact hpre.2.1.1
        have h5:=r5 hL;have h9:=r9 l7;obtain⟨A7,n7,c7,e7⟩:=Jy h9;rw[e7]at h9;obtain⟨y2,c2⟩:=Option.isSome_iff_exists.1 (r4.1 2 aI).1;rw[aj]at c2;have z2:W.frozen? (w2,2)=false:=by simpa using(r4.1 2 aI).2
        have hT10:=@Aa ((W.setCell ⟨w2.heap.size,2,none⟩ (.slice A7 n7 c7)).rangeAt w2 0 [.int .u8 (c.toNat:Int),nm,(.slice A7 n7 c7),.string ⟨(c::r).toArray⟩]) (Cv [.int .u8 (c.toNat:Int),nm] [.slice A acc.length cA] [.string ⟨(c::r).toArray⟩] [.slice A7 n7 c7] h5 rfl);have hK10:=@Aa ((W.setCell ⟨w2.heap.size,2,none⟩ (.slice A7 n7 c7)).there w2 0 4) (ag r4.1 w2 2 [.slice A7 n7 c7]);have hBk10:=Aa (r4.2.set (o:=2) (.slice A7 n7 c7))
        have hP10:=Aa (show ∀j (hj:j<ps.length),(W.setCell ⟨w2.heap.size,2,none⟩ (.slice A7 n7 c7)).cell? ⟨g,j,none⟩=some (.string ⟨ps[j].toArray⟩)from fun j hj=>by
         rw[World.cell?_setCell_other _ _ _ _ cb];exact r3 j hj)
        have hO10:=@Aa ((W.setCell ⟨w2.heap.size,2,none⟩ (.slice A7 n7 c7)).ownsRow w3 107 6 (.slice A7 n7 c7) (acc.length+1) (acc.flatMap Sc++Sc f)) (h9.kept (Pd W _ (.slice A7 n7 c7)) (.inr (fun e=>by have:=(h9.lt _ e).1;simp at this;omega)));have hz10:w3.heap.size<=(W.setCell ⟨w2.heap.size,2,none⟩ (.slice A7 n7 c7)).heap.size:=by simpa using r2
        have hB10:=@Aa (Below w w (W.setCell ⟨w2.heap.size,2,none⟩ (.slice A7 n7 c7))) (r1.setCell hz2 _);clear r1 r3 r4 r5 r6 r7 r8 r9 r0 h5 h9;go_simp;exact hK undef _ _ Ac Ac ⟨hB10.o,hz10,hP10.o,⟨hK10.o,hBk10.o⟩,fun h=>by simp at h,fun _=>by show World.rangeAt _ _ _ [_,_,U 7,_];rw[e7];exact hT10.o,fun h=>absurd l7 (by rw[(Dn Hdep.o 7 6 rfl (Dn Hdep.o 6 5 rfl h))];decide),fun h=>absurd l7 (by rw[show L 7=false from h];decide),fun _=>by show World.ownsRow _ _ _ _ (U 7) _ _;rw[e7];exact hO10.o,fun _ h=>absurd l7 (by rw[show L 7=false from h];decide)⟩ (by simp[Act.put,hpre,e7])
      rintro L U W hL hφ hR;obtain⟨hbW,hzW,hprW,hKW,_,hTW,_,_,hoW,_⟩:=hR;have hTW':=hTW (hL 10 aI);have hoW':=hoW (hL 7 aI);generalize U 7=V at hTW' hoW';have HbW:=Aa hbW;have HprW:=Aa hprW;have HKW:=Aa hKW.1;have HBW:=Aa hKW.2;have HTW:=Aa hTW';have HoW:=Aa hoW';clear hL hφ hbW hprW hKW hTW hoW hTW' hoW';go_wp2_with fail;go_roundw
      case rel=>exact⟨k+1,acc++[f],V,by go_num,by omega,by simp;omega,Hft4.o,by rw[af,List.flatMap_append,show [f].flatMap Sc=Sc f from by simp];exact HoW.o,HbW.o,hzW,HprW.o,HTW.o,HKW.o,HBW.o⟩
      case measure=>simp[intOf];omega
  ·have i2:¬(k:Int)<(ps.length:Int):=aF;have Hfin:=Aa (show Eg (c::r)=some ⟨c,nm,acc⟩by rw[hft.o,List.drop_of_length_le aF];rfl);go_wp2_with fail;go_ret2;refine Ep.yes Hfin.o (b:=w2.heap.size) (fv:=.slice A acc.length cA) rfl hz2 ?_ (fun k hk=>by have:=(hown.o.lt k hk).1;omega) hbr.o;refine⟨show w2.heap.size<wo.heap.size by omega,hB.o,by simpa using Ab hT.o 0 rfl,by simpa using Ab hT.o 1 rfl,by simpa using Ab hT.o 2 rfl,?_,A,cA,rfl,ha8,Hrow.o⟩;have hB:=(Ex.1 Hfin.o).2;show _=some (Value.string ⟨(Ym ⟨c,nm,acc⟩).toArray⟩);rw[hB];simpa using Ab hT.o 3 rfl
theorem Za(s:List UInt8)(w:World)(hs:s.length<=4000000):
  Calls prog 135 #[s] w (Ep (Eg s) w):=by
 cases s with
 |nil=>exact Qf5 w
 |cons c r=>
  simp at hs;by_cases hc:Dt c
  ·by_cases h:(Cy 61 r).2.2=false\/At (Cy 61 r).1=false\/(Cy 61 r).2.1=[]
   ·exact Qdw c r w aF hc h
   simp only[not_or]at h;exact Qco c r (Cy 61 r).1 (Cy 61 r).2.1 w aF hc (Prod.ext rfl (Prod.ext rfl (by simpa using h.1))) (by simpa using h.2.1) h.2.2
  exact Qc3 c r w aF hc
def Qj3(w:World)(p:Value)(xs:List PT):Prop:=
 ∃b mb,p=.pointer (some ⟨b,0,none⟩)/\b<w.heap.size/\w.cell? ⟨b,1,none⟩=some (.map (some mb))/\N0 w mb xs
theorem Rr.map{w:World}{p:Value}{xs:List PT}(h:Rr w p xs):Qj3 w p xs:=by
 obtain⟨b,A,c,mb,e,h0,h1,h2,h3,h4,_⟩:=h
 exact⟨b,mb,e,h0,h2,h4⟩
theorem Gg{w:World}{mb:Nat}{xs:List PT}(h:N0 w mb xs)(n:Cc)(hn:n.length<=9223372036854775807):
  (Instr.lookup 143 (.map (some mb)) (.string ⟨n.toArray⟩) false).run prog w=.ok (Xq (Fc xs n)) w:=
 Db.lookup h Tryz.keyStr underlying143 (Tryz.zeroPtr w) (Qee hn)
theorem H3{k:Kd}(h:Cs k):k.name.length<=3:=by
 rcases h.2.1 with⟨_,hn⟩|⟨_,hn⟩
 ·exact(Dj.1 hn).2.1
 rw[hn];simp
theorem Rr.tys{w:World}{p:Value}{xs:List PT}(h:Rr w p xs):∀x∈xs,Td w x:=by
 obtain⟨_,_,_,_,_,_,_,_,_,_,h,_⟩:=h
 exact h
theorem Qcf(p:Value)(xs:List PT)(k:Kd)(w:World)(h:Qj3 w p xs)(hk:k.name.length<=100):
  Calls prog 94 #[p,Gy k] w fun e w'=>e=.returned (.bool (decide (Bq (Ae xs) k)))/\Below w w w':=by
 obtain⟨b,mb,rfl,hb,hm,hn⟩:=h;have Hn:=Aa hn;clear hn;unfold Gy;generalize hd:(.cells #[k.signs,k.base,k.name] 67:Obj)=ob;have hl0:w.heap.size<(w.alloc ob).heap.size:=aH;have x1:(w.alloc ob).cell? (w,1)=k.base:=by rw[<-hd];simp
 have x2:(w.alloc ob).cell? (w,2)=k.name:=by rw[<-hd];simp
 have x3:(w.alloc ob).cell? (b,1)=some (.map (some mb)):=by rw[World.cell?_alloc_old _ _ _ (show b≠w.heap.size by omega)];exact hm
 have hlook:∀q,(Instr.lookup 143 (.map (some mb)) k.name false).run prog ((w.alloc ob).drewN q)=.ok (Xq (Fc xs k.name)) ((w.alloc ob).drewN q):=fun q=>Gg (Db.below (Hn.o.alloc _) (below_drewN (Ar _ _) q)) k.name aF;have Hd:=Aa hd
 have Hr:=Aa (show decide (Bq (Ae xs) k)=(decide (k.base≠[64]) || (Fc xs k.name).isSome)by
  have e:Bq (Ae xs) k↔(k.base=[64]->(Fc xs k.name).isSome=true):=by unfold Bq;rw[Jm];simp
  by_cases h:k.base=[64]
  ·cases hf:Fc xs k.name with
   |none=>rw[aA (fun h2=>by have:=e.1 h2 h;rw[hf]at this;cases this)];simp[h]
   |some x=>rw[aB (e.2 (fun _=>by rw[hf];rfl))];simp
  rw[aB (e.2 (fun h2=>absurd h2 h))];simp[h])
 have Hb:=@Aa (Below w w (w.alloc ob)) ((Ar _ _).alloc (Am _) _);go_enter func94,ntmps94;rcases Decidable.em (k.base=[64])with h64|h64
 ·have t1:(k.base != [64])=false:=dO;have H64:=Aa h64;clear h64 hd hl0;go_wp2_with fail;rw[Hd.o];cases hf:Fc xs k.name with
  |none=>
   rw[hf]at hlook;have Hf:=Aa hf;clear hf;unfold Xq at hlook;refine Bb [5,6,7,8,9,10,11,12,13,14,15,16,17,4] aJ aJ aJ (fun u=>by dsimp only[Bp,Bh,List.set,aj,Nat.reduceAdd])
    (fun i v W=>match i with|0=>v=(w,1)|1=>v=k.base|2=>v=.bool false|3=>v=.bool false|4=>v=b|5=>v=b|6=>v=(b,1)|7=>v=.map (some mb)|8=>v=(w,2)|9=>v=k.name|10=>v=.pointer none|11=>v=.bool false|12=>v=.bool false|13=>v=.bool false|_=>True) (fun L U W=>∃q,W=(w.alloc ob).drewN q) (fun _ _=>True) (fun _ _ _ _ _ h=>h) ⟨1,rfl⟩ ?_ ?_
   ·exact fP
   rintro L U W hL hφ ⟨q,rfl⟩;have e13:U 13=.bool false:=hφ 13 aI;simp only[e13];go_wp2_with fail;go_ret;exact⟨Ec (Cn (by rw[Hr.o,Hf.o];simp[H64.o])),below_drewN Hb.o _⟩
  |some x=>
   rw[hf]at hlook;have Hf:=Aa hf;clear hf;unfold Xq PT.ptr at hlook;refine Bb [5,6,7,8,9,10,11,12,13,14,15,16,17,4] aJ aJ aJ (fun u=>by dsimp only[Bp,Bh,List.set,aj,Nat.reduceAdd])
    (fun i v W=>match i with|0=>v=(w,1)|1=>v=k.base|2=>v=.bool false|3=>v=.bool false|4=>v=b|5=>v=b|6=>v=(b,1)|7=>v=.map (some mb)|8=>v=(w,2)|9=>v=k.name|10=>v=x.blk|11=>v=.bool true|12=>v=.bool true|13=>v=.bool true|_=>True) (fun L U W=>∃q,W=(w.alloc ob).drewN q) (fun _ _=>True) (fun _ _ _ _ _ h=>h) ⟨1,rfl⟩ ?_ ?_
   ·exact fP
   rintro L U W hL hφ ⟨q,rfl⟩;have e13:U 13=.bool true:=hφ 13 aI;simp only[e13];go_wp2_with fail;go_ret;exact⟨Ec (Cn (by rw[Hr.o,Hf.o];simp)),below_drewN Hb.o _⟩
 have t1:(k.base != [64])=true:=dO;have H64:=Aa h64;clear h64 hd hl0;go_wp2_with fail;rw[Hd.o];refine Bb [5,6,7,8,9,10,11,12,13,14,15,16,17,4] aJ aJ aJ (fun u=>by dsimp only[Bp,Bh,List.set,aj,Nat.reduceAdd])
  (fun i v W=>match i with|0=>v=(w,1)|1=>v=k.base|2=>v=.bool true|3=>v=.bool true|12=>v=.bool true|13=>v=.bool true|_=>True) (fun L U W=>∃q,W=(w.alloc ob).drewN q) (fun _ _=>True) (fun _ _ _ _ _ h=>h) ⟨1,rfl⟩ ?_ ?_
 ·exact fP
 rintro L U W hL hφ ⟨q,rfl⟩;have e13:U 13=.bool true:=hφ 13 aI;simp only[e13];go_wp2_with fail;go_ret;exact⟨Ec (Cn (by rw[Hr.o];simp[H64.o])),below_drewN Hb.o _⟩
section
variable {P:Program}
theorem Ax{fn:Func}{p:Tmp}{ty:TypeId}(h:fn.results=#[.cell p ty])(tmps:Array Value)(w:World)(b:Nat)(cs:List Value)(d:TypeDesc)
  (hp:tmps.getD p undef=b) (hc:w.rangeAt b 0 cs) (hu:P.underlying ty=some d) (hd:d.isRow=true) (hi:(P.info? ty).map (·.size)=some cs.length):
  (results fn tmps).run P w=.ok (.agg cs.toArray) w:=by
 have hp':tmps[p]?.getD undef=b:=dS;simp[results,h,hp',asAddr,run_loadVar_mid w b 0 ty cs d hc hu hd hi]
end
theorem Jg(b nm:ByteArray)(w:World):Calls prog 95 #[.agg #[a6,.string b,.string nm]] w fun e w'=>e=.returned (.int .u8 0)/\Below w w w':=by
 go_enter func95,ntmps95;go_wp2_with fail;exact iH
theorem J9(c:UInt8)(t:List UInt8)(hl:t.length<=1000)(b nm:ByteArray)(w:World):Calls prog 95 #[.agg #[.string ⟨(c::t).toArray⟩,.string b,.string nm]] w fun e w'=>e=.returned (.int .u8 (c.toNat:Int))/\Below w w w':=by
 go_enter func95,ntmps95;go_wp2_with fail;exact iH
theorem Ye(k:Kd)(w:World)(c:UInt8)(t:List UInt8)(hs:k.signs=c::t)(hl:t.length<=1000):
  Calls prog 98 #[Gy k] w fun e w'=>e=.returned (Gy k.part)/\Below w w w':=by
 have hp:k.part=⟨t,k.base,k.name⟩:=by unfold Kd.part;rw[hs];rfl
 rw[hp];unfold Gy;rw[hs];clear hp hs;go_enter func98,ntmps98;go_wp2_with fail;refine aD (v:=.agg ([t,k.base,k.name]:List Value).toArray) ?_ rfl ?_
 ·refine Ax results98 _ _ (w.heap.size+1) _ _ rfl ?_ underlying67 rfl aJ;intro j v hv;match j,hv with
  |0,hv=>simp at hv;subst hv;simp[go_sem]
  |1,hv=>simp at hv;subst hv;simp[go_sem]
  |2,hv=>simp at hv;subst hv;simp[go_sem]
  |n+3,hv=>simp at hv
 exact⟨rfl,((Ar _ _).alloc (Am _) _).alloc aH _⟩
theorem Ro{S:List Ty}{n:Nat}{t:Ty}(h:E7 S t=none):Bs S (n+1) t=true:=by rw[Bs,h]
theorem Qi7{S:List Ty}{n:Nat}{t u:Ty}(h:E7 S t=some u):Bs S (n+1) t=Bs S n u:=by rw[Bs,h]
theorem Qfa{S:List Ty}{t:Ty}(h:t.sort≠85):E7 S t=none:=if_neg h
theorem Qeo{S:List Ty}{t:Ty}{f:Fd}{fs:List Fd}(h:t.sort=85)(hf:t.fields=f::fs):E7 S t=if f.kind.signs=[]/\f.kind.base=[64]then Bu S f.kind.name else none:=by
 unfold E7;rw[if_pos h,hf]
theorem Qas{t:Ty}(h:En t)(hs:t.sort=85):∃f fs,t.fields=f::fs/\Cs f.kind:=by
 obtain⟨_,_,h3,_,h5⟩:=h;cases hf:t.fields with
 |nil=>have:=h5 hf;rw[hs]at this;exact absurd this aI
 |cons f fs=>exact⟨f,fs,rfl,((h3.1 f dt).2.2.2.2 dz).1⟩
theorem Qe8(p:Value)(xs:List PT)(x:PT)(w:World)(h:Qj3 w p xs)(hT:∀y∈xs,Td w y)(hok:∀y∈xs,En y.ty)(hS:Fs (Ae xs))(hx:x∈xs):
  Calls prog 136 #[p,x.ptr] w fun e w'=>e=.returned (.bool (Bs (Ae xs) 9 x.ty))/\Below w w w':=by
 have Hmap:=Aa h;obtain⟨b,mb,rfl,hb,hm,hn⟩:=h;have HT:=Aa hT;have Hok:=Aa hok;have HS:=Aa hS;have Hx:=Aa hx;have Hn:=Aa hn;have Hm:=Aa hm;clear hT hok hS hx hn hm;unfold PT.ptr;go_enter func136,ntmps136;go_wp2_with fail;go_loopw [1,6] (fun t i wr=>∃(n:Nat) (y:PT),i=.int .i64 n/\n<=9/\t=y.blk/\Hid (y∈xs)/\Hid (Bs (Ae xs) 9 x.ty=Bs (Ae xs) (9 - n) y.ty)/\Hid (Below w w wr)) (fun _ i _=>9 - (intOf i).toNat)
 case atStart=>exact⟨0,x,rfl,by omega,rfl,Hx.o,rfl,Ar _ _⟩
 case round=>
  obtain⟨n,y,rfl,hn9,rfl,hy,he,hbr⟩:=hrel;have n1:(0:Int)<=(n:Int):=aF;obtain⟨hyb,_,y0,y1,y2,y3,A,cA,hyf,hl8,hrow⟩:=(HT.o y hy.o).below hbr.o;have Hrow:=Aa hrow;have hzw:=hbr.o.size;rw[hyf]at y2;clear hrow hyf y1 y3;by_cases hlt:n<9
  ·have n2:(n:Int)<9:=aF;have he2:=Aa (show Bs (Ae xs) 9 x.ty=Bs (Ae xs) (8 - n+1) y.ty by rw[he.o,show 9 - n=8 - n+1 by omega]);by_cases h85:y.ty.sort=85
   ·have t1:((y.ty.sort.toNat:Int) != 85)=false:=Kx (d:=85) h85;obtain⟨f,fs,hf,hkd⟩:=Qas (Hok.o y hy.o) h85;have Hnext:=Aa (Qeo (S:=Ae xs) h85 hf);have hpos:0<y.ty.fields.length:=dt;obtain⟨bA,oA,rfl,hbA,hrg⟩:=Qs.range Hrow.o hpos;have hf0:y.ty.fields[0]=f:=by simp[hf]
    rw[hf0,Nat.zero_mul,Nat.add_zero]at hrg;have Hrg:=@Aa (wr.rangeAt bA (oA+2) [f.kind.signs,f.kind.base,f.kind.name]) (Yz [(f.tag:Int),f.name] _ [f.given] hrg);have hp1:(0:Int)<(y.ty.fields.length:Int):=aF;have Href:=Aa (HS.o y.ty (am (f:=(·.ty)) hy.o) dl f dt);have Hkd:=Aa hkd;have hnl:=H3 hkd;clear h85 hf hf0 hrg hkd;have hbb:=Aa ((Hm.o));by_cases hsg:f.kind.signs=[]
    ·have s1:(f.kind.signs != [])=false:=cu;have s2:f.kind.signs.isEmpty=true:=cu;have s4:(!f.kind.signs.isEmpty)=false:=cu;by_cases h64:f.kind.base=[64]
     ·have s3:(f.kind.base == [64])=true:=dO;have s5:(f.kind.base != [64])=false:=dO;have hsome:=Href.o h64;rw[Jm]at hsome;cases hz:Fc xs f.kind.name with
      |none=>rw[hz]at hsome;cases hsome
      |some z=>
       have Hz:=Aa (show Bs (Ae xs) 9 x.ty=Bs (Ae xs) (8 - n) z.ty from by
        rw[he2.o];exact Qi7 (by rw[Hnext.o,if_pos ⟨hsg,h64⟩,Jm,hz];rfl))
       have Hzm:=Aa (Gm hz).1;generalize hd:(.cells #[f.kind.signs,f.kind.base,f.kind.name] 67:Obj)=ob;have x2:(wr.alloc ob).cell? (wr,2)=f.kind.name:=by rw[<-hd];simp
       have x3:(wr.alloc ob).cell? (b,1)=some (.map (some mb)):=by
        rw[World.cell?_alloc_old _ _ _ (show b≠wr.heap.size by omega)];exact(hbr.o.cell (p:=⟨b,1,none⟩) hb).trans Hm.o
       have hlook:∀q,(Instr.lookup 143 (.map (some mb)) f.kind.name false).run prog ((wr.alloc ob).drewN q)=.ok z.blk ((wr.alloc ob).drewN q):=fun q=>by
        have:=Gg (Db.below (Db.alloc (Db.below Hn.o hbr.o) ob) (below_drewN (Ar _ _) q)) f.kind.name aF;rw[hz]at this;exact this
       have Hbb:=@Aa (Below w w (wr.alloc ob)) (hbr.o.alloc hzw _);have Hd:=Aa hd;clear hd hsg h64 hz hsome;go_wp2_with ((with_reducible refine wpList_load_mid (op:=⟨_,.load 67 _,_,_,_,none⟩) rfl 67 _ rfl bA (oA+2) ?_ _ _ Hrg.o underlying67 ?_ ?_ ?_);rfl;rfl;kernel_rfl)
       rw[Hd.o];refine Bb [28,29,30,31,32,33,34,1] aJ aJ aJ (fun u=>by dsimp only[Bp,Bh,List.set,aj,Nat.reduceAdd])
        (fun i v W=>match i with|0=>v=b|1=>v=b|2=>v=(b,1)|3=>v=.map (some mb)|4=>v=(wr,2)|5=>v=f.kind.name|6=>v=z.blk|7=>v=z.blk|_=>True) (fun L U W=>∃q,W=(wr.alloc ob).drewN q) (fun _ _=>True) (fun _ _ _ _ _ h=>h) ⟨1,rfl⟩ ?_ ?_
       ·repeat (first|exact Ap.nil|(refine Ap.cons ?_ ?_;rotate_left))
        all_goals
         rintro L U W hL hpre ⟨q,rfl⟩ hun hdep K hK;have hlq:=hlook q;clear hun hdep;first|(simp[Region.binds]at hpre;done)|simp[Region.binds]at hpre|clear hpre
         go_simp;first|exact hK _ _ _ rfl Ac ⟨q,rfl⟩ rfl|exact hK _ _ _ rfl Ac ⟨q,rfl⟩ aG
       rintro L U W hL hφ ⟨q,rfl⟩;have e7:U 7=z.blk:=hφ 7 aI;simp only[e7];clear hφ hL hlook x2 x3;go_wp2_with fail;go_roundw
       case rel=>exact⟨n+1,z,by go_num,by omega,rfl,Hzm.o,by show _=Bs (Ae xs) (9 - (n+1)) z.ty;rw[Hz.o,show 9 - (n+1)=8 - n by omega],below_drewN Hbb.o _⟩
       case measure=>simp[intOf];omega
     have s3:(f.kind.base == [64])=false:=dO;have s5:(f.kind.base != [64])=true:=dO;have Hend:=Aa (he2.o.trans (Ro (by rw[Hnext.o,if_neg (fun h=>h64 h.2)])));clear hsg h64;go_wp2_with ((with_reducible refine wpList_load_mid (op:=⟨_,.load 67 _,_,_,_,none⟩) rfl 67 _ rfl bA (oA+2) ?_ _ _ Hrg.o underlying67 ?_ ?_ ?_);rfl;rfl;kernel_rfl)
     exact iI
    have s1:(f.kind.signs != [])=true:=cu;have s2:f.kind.signs.isEmpty=false:=cu;have s4:(!f.kind.signs.isEmpty)=true:=cu;have Hend:=Aa (he2.o.trans (Ro (by rw[Hnext.o,if_neg (fun h=>hsg h.1)])));clear hsg;go_wp2_with ((with_reducible refine wpList_load_mid (op:=⟨_,.load 67 _,_,_,_,none⟩) rfl 67 _ rfl bA (oA+2) ?_ _ _ Hrg.o underlying67 ?_ ?_ ?_);rfl;rfl;kernel_rfl)
    exact iI
   have t1:((y.ty.sort.toNat:Int) != 85)=true:=Nq (d:=85) h85;have Hend:=Aa (he2.o.trans (Ro (Qfa h85)));clear h85;go_wp2_with fail;go_ret;exact⟨Ec (Cn Hend.o.symm),hbr.o⟩
  ·obtain rfl:n=9:=aF;have Hend:=@Aa (Bs (Ae xs) 9 x.ty=false) he.o;go_wp2_with fail;go_ret;exact⟨Ec (Cn Hend.o.symm),hbr.o⟩
theorem Td.kept{w w':World}{x:PT}{row:Option Nat}(h:Td w x)(hg:w.grownBy w' row)(h1:row≠some x.blk)(h2:∀k,0<x.ty.fields.length->x.fv.ownBlock=some k->row≠some k):Td w' x:=by
 obtain⟨h0,hk,a0,a1,a2,a3,A,c,e,hl,hr⟩:=h;have hne:some x.blk≠row:=fun e=>h1 e.symm;refine⟨a8 h0 hg.size,hk.grown h0 hg hne,hg.cell a0 hne,hg.cell a1 hne,hg.cell a2 hne,hg.cell a3 hne,A,c,e,hl,hr.1,hr.2.1,fun hn=>?_⟩;obtain⟨b,off,eA,hb,hc⟩:=hr.2.2 hn;have hne2:some b≠row:=fun e2=>h2 b aF (by rw[e,eA];rfl) e2.symm;exact⟨b,off,eA,a8 hb hg.size,fun j u hu=>hg.cell (hc j u hu) hne2⟩
theorem Td.fvlt{w:World}{x:PT}(h:Td w x){k:Nat}(hn:0<x.ty.fields.length)(hk:x.fv.ownBlock=some k):k<w.heap.size:=by
 obtain⟨_,_,_,_,_,_,A,c,e,_,hr⟩:=h;obtain⟨b,off,eA,hb,_⟩:=hr.2.2 aF;rw[e,eA]at hk;simp only[Value.ownBlock,ah]at hk;omega
def Qcn(lo:Nat)(x:PT):Prop:=lo<=x.blk/\∀k,0<x.ty.fields.length->x.fv.ownBlock=some k->lo<=k
def Qh9(v:Value)(x:PT):Prop:=v.ownBlock≠some x.blk/\∀k,0<x.ty.fields.length->x.fv.ownBlock=some k->v.ownBlock≠some k
def V0(w:World)(lo:Nat)(v:Value)(xs:List PT):Prop:=(∀x∈xs,Td w x/\Qcn lo x/\Qh9 v x)/\xs.Pairwise fun x y=>x.blk≠y.blk
theorem V0.far{w w':World}{lo b:Nat}{v:Value}{xs:List PT}(h:V0 w lo v xs)(hg:w.grownBy w' (some b))(hb:b<lo):V0 w' lo v xs:=
 ⟨fun x hx=>by
  obtain⟨h1,h2,h3⟩:=h.1 x hx;refine⟨h1.kept hg (fun e=>?_) (fun k hn hk e=>?_),h2,h3⟩
  ·injection e with e;have:=h2.1;omega
  injection e with e;have:=h2.2 k hn hk;omega,h.2⟩
theorem V0.below{w w':World}{lo:Nat}{v:Value}{xs:List PT}(h:V0 w lo v xs)(hb:Below w w w'):V0 w' lo v xs:=
 ⟨fun x hx=>⟨(h.1 x hx).1.below hb,(h.1 x hx).2⟩,h.2⟩
theorem V0.push{wo w3 w5:World}{lo base n k1:Nat}{e:TypeId}{v v5:Value}{cs:List Value}{xs:List PT}{x:PT}(h:V0 wo lo v xs)(hb:Below wo wo w3)(hown:wo.ownsRow base e k1 v n cs)(hx:Td w3 x)(hxb:wo.heap.size<=x.blk)
  (hxf:∀k,x.fv.ownBlock=some k->wo.heap.size<=k) (hlo:lo<=wo.heap.size) (hg:w3.grownBy w5 v.ownBlock) (hwh:v5.ownBlock=v.ownBlock\/∃k,v5.ownBlock=some k/\w3.heap.size<=k):V0 w5 lo v5 (xs++[x]):=by
 have hall:∀y∈xs++[x],Td w3 y/\Qcn lo y/\Qh9 v y:=by
  intro y hy;rcases ad.1 hy with hy|hy
  ·obtain⟨h1,h2⟩:=h.1 y hy;exact⟨h1.below hb,h2⟩
  simp at hy;subst hy;refine⟨hx,⟨by omega,fun k _ hk=>by have:=hxf k hk;omega⟩,fun e=>?_,fun k _ hk e=>?_⟩
  ·have:=(hown.lt _ e).2;omega
  have:=(hown.lt _ e).2;have:=hxf k hk;omega
 refine⟨fun y hy=>?_,?_⟩
 ·obtain⟨h1,h2,h3⟩:=hall y hy;refine⟨h1.kept hg h3.1 h3.2,h2,?_⟩;rcases hwh with hwh|⟨k,hwh,hk⟩
  ·unfold Qh9;rw[hwh];exact h3
  refine⟨fun e=>?_,fun k2 hn hk2 e=>?_⟩
  ·rw[hwh]at e;injection e with e;have:=h1.1;omega
  rw[hwh]at e;injection e with e;have:=h1.fvlt hn hk2;omega
 rw[List.pairwise_append];refine⟨h.2,by simp,fun y hy z hz=>?_⟩;simp at hz;subst hz;have:=(h.1 y hy).1.1;omega
def Nn(lo:Nat)(w:World)(p:Value)(xs:List PT):Prop:=
 ∃b A c mb,p=.pointer (some ⟨b,0,none⟩)/\b<w.heap.size/\w.cell? ⟨b,0,none⟩=some (.slice A xs.length c)/\w.cell? ⟨b,1,none⟩=some (.map (some mb))/\Cd w A xs.length (xs.map (·.ptr))/\N0 w mb xs/\(∀x∈xs,Td w x)/\(xs.Pairwise fun x y=>x.blk≠y.blk) /\
  lo<=b/\lo<=mb/\(∀g o,0<xs.length->A=some ⟨g,o,none⟩->lo<=g)/\∀x∈xs,Qcn lo x
theorem Nn.isc{lo:Nat}{w:World}{p:Value}{xs:List PT}(h:Nn lo w p xs):Rr w p xs:=by
 obtain⟨b,A,c,mb,h0,h1,h2,h3,h4,h5,h6,h7,_⟩:=h;exact⟨b,A,c,mb,h0,h1,h2,h3,h4,h5,h6,h7⟩
theorem Nn.below{lo:Nat}{w w':World}{p:Value}{xs:List PT}(h:Nn lo w p xs)(hb:Below w w w'):Nn lo w' p xs:=by
 obtain⟨b,A,c,mb,e,h0,h1,h2,h3,h4,h5,h6,h7⟩:=h;obtain⟨hc,_,hz⟩:=Bx hb;exact⟨b,A,c,mb,e,hz _ h0,(hc _ _ h0).trans h1,(hc _ _ h0).trans h2,h3.below hb,Db.below h4 hb,fun x hx=>(h5 x hx).below hb,h6,h7⟩
theorem Nn.far{lo b0:Nat}{w w':World}{p:Value}{xs:List PT}(h:Nn lo w p xs)(hg:w.grownBy w' (some b0))(hb0:b0<lo):Nn lo w' p xs:=by
 obtain⟨b,A,c,mb,e,h0,h1,h2,h3,h4,h5,h6,l1,l2,l3,l4⟩:=h;have hne:some b≠some b0:=cb;refine⟨b,A,c,mb,e,a8 h0 hg.size,hg.cell h1 hne,hg.cell h2 hne,⟨h3.1,h3.2.1,fun hn=>?_⟩,Db.kept h4 hg cb,fun x hx=>(h5 x hx).kept hg (fun e=>?_) (fun k hn hk e=>?_),h6,l1,l2,l3,l4⟩
 ·obtain⟨g,o,eA,hgl,hc⟩:=h3.2.2 hn;have:=l3 g o hn eA;exact⟨g,o,eA,a8 hgl hg.size,fun j u hu=>hg.cell (hc j u hu) (by intro e;injection e with e;simp at e;omega)⟩
 ·injection e with e;have:=(l4 x hx).1;omega
 injection e with e;have:=(l4 x hx).2 k hn hk;omega
def Gf(o:Option (List Ty))(w:World)(e:Ending)(w':World):Prop:=
 (match o with
  |some S=>∃p xs,Ae xs=S/\e=.returned (.tuple #[p,.bool true])/\Nn w.heap.size w' p xs
  |none=>∃p:Option Addr,e=.returned (.tuple #[.pointer p,.bool false]))/\Below w w w'
theorem Gf.no{w w':World}{e:Ending}{o:Option (List Ty)}(ho:o=none){p:Option Addr}(he:e=.returned (.tuple #[.pointer p,.bool false]))(hb:Below w w w'):Gf o w e w':=by
 rw[ho];exact⟨⟨p,he⟩,hb⟩
theorem Gf.yes{w w':World}{e:Ending}{o:Option (List Ty)}{p:Value}{xs:List PT}(ho:o=some (Ae xs))(he:e=.returned (.tuple #[p,.bool true]))(hs:Nn w.heap.size w' p xs)(hb:Below w w w'):Gf o w e w':=by
 rw[ho];exact⟨⟨p,xs,rfl,he,hs⟩,hb⟩
theorem Qbh{xs:List PT}{x:PT}(h:Fc xs x.ty.name=none)(l:Lit)(hl:WideAt.IsKeyLit l):(if l.sameKey (.string x.ty.name)=true then x.ptr else Vn xs l)=Vn (xs++[x]) l:=by
 by_cases e:l=.string x.ty.name
 ·subst e;rw[if_pos (WideAt.sameKey_self hl)];unfold Fc at h;show x.ptr=Xq ((xs++[x]).find? fun y=>decide (y.ty.name=x.ty.name));rw[List.find?_append,h];simp[Xq]
 rw[if_neg (fun hh=>e ((WideAt.sameKey_iff (show WideAt.IsKeyLit (.string x.ty.name)from Ac)).1 hh))];cases l with
 |string s=>
  have hne:¬x.ty.name=s:=fun h2=>e (by rw[h2]);unfold Vn Fc;simp only;rw[List.find?_append];simp[hne]
 |_=>rfl
theorem Vo{xs:List PT}{n:Cc}:Fc xs n=none↔(Ae xs).any (fun u=>decide (u.name=n))=false:=by
 unfold Fc Ae;rw[List.find?_eq_none,List.any_map];simp
theorem Tryz.infoPt:(prog.info? 100).map (fun i=>(i.zero,i.size,i.bytes))=some (some (.pointer none),1,8):=aJ
theorem Qam(s:List UInt8)(w:World)(hs:s.length<=4000000)(h:400<s.length):
  Calls prog 73 #[s] w (Gf (Cf s) w):=by
 have HF:=@Aa (Cf s=none) (if_pos h);have t1:(400:Int)<(s.length:Int):=aF;go_enter func73,ntmps73;go_wp2_with fail;go_ret2;exact Gf.no HF.o rfl (Ar _ _)
end
end Go.Proofs.YtgfmljfjgohdcaaGreatDoor
