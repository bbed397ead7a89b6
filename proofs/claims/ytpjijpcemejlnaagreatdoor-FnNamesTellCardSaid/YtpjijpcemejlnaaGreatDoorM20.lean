/- Texts joined. Conditions: as each theorem names them. -/
import Derived.Maps.AppendAt
import Derived.Test.YtpjijpcemejlnaaGreatDoorM09
set_option maxRecDepth 100000
set_option maxHeartbeats 32000000
set_option linter.unusedVariables false
set_option linter.unusedSimpArgs false
namespace Go.Proofs.YtpjijpcemejlnaaGreatDoor
open Go.RowKit Go.Proofs.Tryz
section
attribute [local go_sem] Qkk Qj0 Qjm Qhu ByteArray.mk_append_mk
theorem Qcw(c:UInt8)(r nm rest:List UInt8)(w:World)(hs:r.length<=3999999)(hc:Ds c)(h:Cy 61 r=(nm,rest,true))(hn:Av nm=true)(hr:rest≠[]):
  Calls prog 135 #[.string ⟨(c::r).toArray⟩] w (Es (Eh (c::r)) w):=by
 have HF:=Aa (Zx hc h hn hr)
 have Hc:=Aa (fun W=>(show Calls prog 164 #[.string ⟨#[82,85,69]⟩,.string ⟨#[c]⟩] W fun e w'=>e=.returned (.bool true)/\W=w' from by
  have:=Nj [82,85,69] c W;rw[To,aD hc]at this;exact this))
 have Hcut:=Aa (fun W=>Q9 r 61 W aH);have hcl:=Kl 61 r;have Hcut2:=Aa h;rw[h]at Hcut hcl;simp only at hcl;have hcl1:=hcl.1;have hcl2:=hcl.2;have Hname:=Aa (fun W=>Kf nm W aH);rw[hn]at Hname;have Hsp:=Aa (fun W=>Rl rest 44 W aH);have hne:=D7 44 rest;have Hpl:=Aa (Ak 44 rest);have Hln:=Aa (Gt 44 rest);generalize Ag 44 rest=ps at HF Hsp hne Hpl Hln;have Hcs:=Aa hc;have hpsl:ps.length<=4000000:=by have:=Hln.o;omega
 have hr1:rest.isEmpty=false:=dU;have hr2:(rest == [])=false:=dU;clear h hn hr hc hcl;go_enter func135,ntmps135;go_wp2_with fail;refine(Hc.o _).mono ?_;rintro e w' ⟨rfl,rfl⟩;go_wp2_with fail;refine(Hcut.o _).mono ?_;rintro e w1 ⟨rfl,k1,rfl⟩;unfold Qb8;go_wp2_with fail;refine(Hname.o _).mono ?_;rintro e w2 ⟨rfl,hb2⟩;have Hb2:=@Aa (Below w w w2) ((below_drewN (At _ _) k1).trans (by simpa using hb2));have hz2:=Hb2.o.size;clear hb2;go_wp2_with fail;refine(Hsp.o _).mono ?_;rintro e w3 ⟨v,rfl,ho,hb3⟩;obtain⟨g,cg,rfl,hg1,hg2,hcells⟩:=My ho hne;have hg1':w2.heap.size+1<=g:=by simpa using hg1
 have hz3:w2.heap.size<w3.heap.size:=aH;have HT0:=@Aa (w3.rangeAt w2 0 [.int .u8 (c.toNat:Int),nm,.slice none 0 0,.string ⟨(c::r).toArray⟩]) (Ax (Cj w2 _ _) aM hb3);have HK0:=@Aa (w3.there w2 0 4) (Au (Ct w2 [.int .u8 (c.toNat:Int),nm,.slice none 0 0,.string ⟨(c::r).toArray⟩] _) aM hb3);have HB0:=@Aa (Qb w3 w2.heap.size) ((Qb.new w2 _ _).belowAt aM hb3);have Hb3:=@Aa (Below w w w3) ((Hb2.o.alloc Hb2.o.size _).trans (hb3.mono aN));have Hcells:=@Aa (∀j (hj:j<ps.length),w3.cell? ⟨g,j,none⟩=some (.string ⟨ps[j].toArray⟩)) hcells;have Hown0:=Aa (World.ownsRow_nil w3 w3 105 6);clear ho hb3 hcells hg1 hne;go_wp2_with fail
 go_loopw [53] (fun i wr=>∃(k:Nat) (acc:List Fd) (fv:Value),i=.int .i64 k/\k<=ps.length/\acc.length<=8/\Hid (Eh (c::r)=Qim c nm (E3 c (ps.drop k) acc)) /\
   Hid (wr.ownsRow w3 105 6 fv acc.length (acc.flatMap S5))/\Hid (Below w w wr)/\w3.heap.size<=wr.heap.size /\
   Hid (∀j (hj:j<ps.length),wr.cell? ⟨g,j,none⟩=some (.string ⟨ps[j].toArray⟩)) /\
   Hid (wr.rangeAt w2 0 [.int .u8 (c.toNat:Int),nm,fv,.string ⟨(c::r).toArray⟩])/\Hid (wr.there w2 0 4)/\Hid (Qb wr w2.heap.size)) (fun i _=>ps.length - (intOf i).toNat)
 case atStart=>exact⟨0,[],.slice none 0 0,rfl,ah _,by simp,HF.o,Hown0.o,Hb3.o,Ao _,Hcells.o,HT0.o,HK0.o,HB0.o⟩
 case round=>
  obtain⟨wo,rfl⟩:∃wo:World,wo=wr:=⟨_,rfl⟩
  obtain⟨k,acc,fv,rfl,hk,ha8,hft,hown,hbr,hzr,hpr,hT,hK,hB⟩:=hrel;have i1:(0:Int)<=(k:Int):=aH;obtain⟨A,cA,rfl,hrow⟩:=Bj.ownK hown.o bh;have Hrow:=Aa hrow;have t0:wo.cell? (w2,0)=some (.int .u8 (c.toNat:Int)):=by simpa using Ac hT.o 0 rfl
  have t2:wo.cell? (w2,2)=some (.slice A acc.length cA):=by simpa using Ac hT.o 2 rfl
  clear hrow;by_cases hlt:k<ps.length
  ·have i2:(k:Int)<(ps.length:Int):=aH;have cell:=hpr.o k hlt;have hft2:=Aa ((Yy (c:=c) (acc:=acc) hlt) ▸ hft.o);have hplk:=Hpl.o _ (af hlt);generalize ps[k]=p at cell hft2 hplk;have Hread:=Aa (fun W=>Xk c Hcs.o p W aH);generalize Gs c p=o at hft2 Hread;go_wp2_with fail;refine(Hread.o _).mono ?_;rintro e w4 ⟨hcase,hb4⟩;have Hb4:=Aa (hbr.o.trans (hb4.mono hbr.o.size));cases o with
   |none=>
    obtain⟨n,a1,a2,a3,a4,a5,rfl⟩:=hcase;have Hend:=@Aa (Eh (c::r)=none) hft2.o;go_wp2_with fail;go_ret2;exact Es.no Hend.o rfl (Hb4.o.alloc Hb4.o.size _)
   |some f=>
    have hcase':e=.returned (.tuple #[.agg #[(f.tag:Int),f.name,f.kind.signs,f.kind.base,f.kind.name,f.given],.bool true]):=hcase;subst hcase';clear hcase;have s0:=(hb4.cell (p:=⟨w2.heap.size,0,none⟩) (show w2.heap.size<wo.heap.size by omega)).trans t0;have s2:=(hb4.cell (p:=⟨w2.heap.size,2,none⟩) (show w2.heap.size<wo.heap.size by omega)).trans t2;have hz4:wo.heap.size<=w4.heap.size:=hb4.size;have hn4:¬(w2.heap.size=w4.heap.size):=aH;have hn5:w2.heap.size<w4.heap.size:=aH;have Hb4r:=Aa hb4;clear t0 t2 hb4;have hft3:=@Aa (Eh (c::r)=Qim c nm (if acc.length=8\/Fk acc f=false then none else E3 c (ps.drop (k+1)) (acc++[f]))) hft2.o;clear hft2;rcases Nat.eq_or_lt_of_le ha8 with h8|h8
    ·have q1:((acc.length:Int) == 8)=true:=by simp[h8]
     have Hend:=Aa (hft3.o.trans (by rw[if_pos (.inl h8)]));clear h8;go_wp2_with fail;go_ret2;exact Es.no Hend.o rfl (Hb4.o.alloc Hb4.o.size _)
    have q1:((acc.length:Int) == 8)=false:=cf;go_wp2_with fail;have f0:(w4.alloc (.cells #[(f.tag:Int),f.name,f.kind.signs,f.kind.base,f.kind.name,f.given] 105)).cell? (w4,0)=(f.tag:Int):=aM;have f1:(w4.alloc (.cells #[(f.tag:Int),f.name,f.kind.signs,f.kind.base,f.kind.name,f.given] 105)).cell? (w4,1)=f.name:=aM;have HR0:=Aa (Cj w4 [(f.tag:Int),f.name,f.kind.signs,f.kind.base,f.kind.name,f.given] 105);go_loopw [81] (fun jj wq=>∃j:Nat,jj=.int .i64 j/\j<=acc.length/\Hid (∀x∈acc.take j,x.name≠f.name/\x.tag<f.tag)/\Hid (Below w4 w4 wq)/\w4.heap.size<wq.heap.size/\Hid (wq.rangeAt w4 0 [(f.tag:Int),f.name,f.kind.signs,f.kind.base,f.kind.name,f.given])) (fun jj _=>acc.length - (intOf jj).toNat)
    case atStart=>exact⟨0,rfl,ah _,by intro x hx;simp at hx,(At _ _).alloc (Ao _) _,by simp,HR0.o⟩
    case round=>
     clear f0 f1;obtain⟨j,rfl,hj,hin,hbq,hzq,hfr⟩:=hrel;have j1:(0:Int)<=(j:Int):=aH;have f0:wr.cell? (w4,0)=(f.tag:Int):=by simpa using Ac hfr.o 0 rfl
     have f1:wr.cell? (w4,1)=f.name:=by simpa using Ac hfr.o 1 rfl
     have hnq:¬(w4.heap.size=wr.heap.size):=aH;have Hbq:=Aa (Hb4.o.trans (hbq.o.mono Hb4.o.size));by_cases hjl:j<acc.length
     ·have j2:(j:Int)<(acc.length:Int):=aH;obtain⟨bA,oA,rfl,hbA,hrg⟩:=Rm.range ((Hrow.o.below Hb4r.o).below hbq.o) hjl;have Hts:=Aa (Bt acc j hjl);have Hmem:=Aa (af hjl);have Hrg:=@Aa (wr.rangeAt bA (oA+j*6) [.int .i64 (acc[j].tag:Int),.string ⟨acc[j].name.toArray⟩,.string ⟨acc[j].kind.signs.toArray⟩,.string ⟨acc[j].kind.base.toArray⟩,.string ⟨acc[j].kind.name.toArray⟩,.string ⟨acc[j].given.toArray⟩]) hrg;clear hrg;generalize acc[j]=x at Hts Hmem Hrg;rcases Decidable.em (x.name=f.name)with hnm|hnm
      ·have q2:(x.name == f.name)=true:=by simp[hnm]
       have Hend:=Aa (hft3.o.trans (by rw[if_pos (.inr (Qa0 Hmem.o (.inr hnm)))]));clear hnm;go_wp2_with ((with_reducible refine wpList_load_mid (op:=⟨_,.load 105 _,_,_,_,none⟩) rfl 105 _ rfl bA (oA+j*6) ?_ _ _ Hrg.o underlying105 ?_ ?_ ?_);rfl;rfl;kernel_rfl)
       go_ret2;exact Es.no Hend.o rfl (Hbq.o.alloc Hbq.o.size _)
      have q2:(x.name == f.name)=false:=by simp[hnm]
      rcases aG x.tag f.tag with ht|ht
      ·have q3:decide ((f.tag:Int)<=(x.tag:Int))=false:=dJ
       have Hin:=Aa (show ∀y∈acc.take (j+1),y.name≠f.name/\y.tag<f.tag from by
        intro y hy;rw[Hts.o]at hy;rcases ag.1 hy with hy|hy
        ·exact hin.o y hy
        simp at hy;subst hy;exact⟨hnm,ht⟩)
       clear hnm;go_wp2_with ((with_reducible refine wpList_load_mid (op:=⟨_,.load 105 _,_,_,_,none⟩) rfl 105 _ rfl bA (oA+j*6) ?_ _ _ Hrg.o underlying105 ?_ ?_ ?_);rfl;rfl;kernel_rfl)
       go_roundw
       case rel=>exact⟨j+1,by go_num,by omega,Hin.o,hbq.o.alloc (Nat.le_of_lt hzq) _,by simp;omega,Ax hfr.o hzq ((At wr.heap.size wr).alloc (Ao _) _)⟩
       case measure=>simp[intOf];omega
      have q3:decide ((f.tag:Int)<=(x.tag:Int))=true:=by rw[decide_eq_true_iff];omega
      have Hend:=Aa (hft3.o.trans (by rw[if_pos (.inr (Qa0 Hmem.o (.inl ht)))]));clear hnm;go_wp2_with ((with_reducible refine wpList_load_mid (op:=⟨_,.load 105 _,_,_,_,none⟩) rfl 105 _ rfl bA (oA+j*6) ?_ _ _ Hrg.o underlying105 ?_ ?_ ?_);rfl;rfl;kernel_rfl)
      go_ret2;exact Es.no Hend.o rfl (Hbq.o.alloc Hbq.o.size _)
     ·have j2:¬(j:Int)<(acc.length:Int):=aH
      have Hft4:=Aa (show Eh (c::r)=Qim c nm (E3 c (ps.drop (k+1)) (acc++[f]))from by
       rw[hft3.o,if_neg];rintro(h|h)
       ·omega
       rw[Qde (fun y hy=>hin.o y (by rw[au aH];exact hy))]at h;cases h)
      have hb1:Below wo wo wr:=Hb4r.o.trans (hbq.o.mono hz4);have Hown:=Aa (Bl hown.o hb1);have Hpr:=@Aa (∀j (hj:j<ps.length),wr.cell? ⟨g,j,none⟩=some (.string ⟨ps[j].toArray⟩)) (fun j hj=>(hb1.cell (p:=⟨g,j,none⟩) (show g<wo.heap.size by omega)).trans (hpr.o j hj));have HT1:=Aa (Ax hT.o (show w2.heap.size<wo.heap.size by omega) hb1);have HB1:=Aa (hB.o.belowAt (show w2.heap.size<wo.heap.size by omega) hb1);have HK1:=Aa (Au hK.o (show w2.heap.size<wo.heap.size by omega) hb1);have hz5:w3.heap.size<=wr.heap.size:=aH;have hz6:w.heap.size<=w3.heap.size:=aH;clear hb1 f0 f1;go_wp2_with fail;refine Be [98,99,100,101,102,103,104,105,106,107,999] aP aP aP (fun u=>by dsimp only[Br,Bk,List.set,an,Nat.reduceAdd])
       (fun i v W=>match i with|0=>v=w2.heap.size|1=>v=w2.heap.size|2=>v=w2.heap.size|3=>v=(w2,2)|4=>v=.slice A acc.length cA|5=>v=.agg #[(f.tag:Int),f.name,f.kind.signs,f.kind.base,f.kind.name,f.given]|8=>v=w2.heap.size|9=>v=(w2,2)|_=>True)
       (fun L U W=>Below w w W/\w3.heap.size<=W.heap.size/\(∀j (hj:j<ps.length),W.cell? ⟨g,j,none⟩=some (.string ⟨ps[j].toArray⟩))/\(W.there w2 0 4/\Qb W w2.heap.size) /\
        (L 10=false->W.rangeAt w2 0 [.int .u8 (c.toNat:Int),nm,.slice A acc.length cA,.string ⟨(c::r).toArray⟩])/\(L 10=true->W.rangeAt w2 0 [.int .u8 (c.toNat:Int),nm,U 7,.string ⟨(c::r).toArray⟩]) /\
        (L 5=false->W.rangeAt w4 0 [(f.tag:Int),f.name,f.kind.signs,f.kind.base,f.kind.name,f.given])/\(L 7=false->W.ownsRow w3 105 6 (.slice A acc.length cA) acc.length (acc.flatMap S5))/\(L 7=true->W.ownsRow w3 105 6 (U 7) (acc.length+1) (acc.flatMap S5++S5 f)) /\
        (L 6=true->L 7=false->∃q,U 6=.slice (some ⟨q,0,none⟩) 1 1/\W.rangeAt q 0 [(f.tag:Int),f.name,f.kind.signs,f.kind.base,f.kind.name,f.given]))
       (fun _ _=>True) (fun w w' _ i v h=>by revert h;exact fun h=>h) ⟨Hbq.o.drew,hz5,Hpr.o,⟨HK1.o,HB1.o⟩,fun _=>HT1.o,by simp,fun _=>hfr.o,fun _=>Hown.o,by simp,by simp⟩ ?_ ?_
      ·repeat (first|exact An.nil|(refine An.cons ?_ ?_;rotate_left))
       all_goals
        rintro L U W hL hpre hR hun hdep K hK;have Hdep:=Aa hdep;have HR:=Aa hR;clear hun hdep hR;first|(simp[Region.binds]at hpre;done)|simp[Region.binds]at hpre|clear hpre
       ·go_simp;exact hK _ _ _ rfl Ab HR.o rfl
       ·go_simp;exact hK _ _ _ rfl Ab HR.o rfl
       ·have u1:=hpre.2;go_simp;exact hK w2.heap.size _ _ rfl Ab HR.o (by simp[Act.put,u1])
       ·have u2:=hpre.2;go_simp;exact hK (w2,2) _ _ rfl Ab HR.o (by simp[Act.put,u2])
       ·have h10:=(Bi Hdep.o 10 7 rfl (Bi Hdep.o 7 4 rfl hL))
        obtain⟨r1,r2,r3,r4,r5,r6,r7,r8,r9,r0⟩:=HR.o;have u3:=hpre.2;have c2:W.cell? (w2,2)=some (.slice A acc.length cA):=by simpa using Ac (r5 h10) 2 rfl
        clear r1 r2 r3 r4 r5 r6 r7 r8 r9 r0;go_simp;exact hK (.slice A acc.length cA) _ _ rfl Ab HR.o (by simp[Act.put,u3])
       ·obtain⟨r1,r2,r3,r4,r5,r6,r7,r8,r9,r0⟩:=HR.o;rw[if_pos di];refine wp_load_mid 105 _ rfl w4 0 rfl [(f.tag:Int),f.name,f.kind.signs,f.kind.base,f.kind.name,f.given] _ (r7 hL) underlying105 rfl aP ?_;exact hK (.agg ([(f.tag:Int),f.name,f.kind.signs,f.kind.base,f.kind.name,f.given]:List Value).toArray) _ _ rfl Ab ⟨r1,r2,r3,r4,r5,r6,fun h=>by simp at h,r8,r9,r0⟩ rfl
       ·obtain⟨r1,r2,r3,r4,r5,r6,r7,r8,r9,r0⟩:=HR.o;have R1:=Aa r1;have u5:=hpre.2;have HF5:=Aa (Cj W [(f.tag:Int),f.name,f.kind.signs,f.kind.base,f.kind.name,f.given] 105)
        have HRR:=Aa (show (∀j (hj:j<ps.length),(W.alloc (.cells #[(f.tag:Int),f.name,f.kind.signs,f.kind.base,f.kind.name,f.given] 105)).cell? ⟨g,j,none⟩=some (.string ⟨ps[j].toArray⟩))/\((W.alloc (.cells #[(f.tag:Int),f.name,f.kind.signs,f.kind.base,f.kind.name,f.given] 105)).there w2 0 4/\Qb (W.alloc (.cells #[(f.tag:Int),f.name,f.kind.signs,f.kind.base,f.kind.name,f.given] 105)) w2.heap.size) /\
         (L 10=false->(W.alloc (.cells #[(f.tag:Int),f.name,f.kind.signs,f.kind.base,f.kind.name,f.given] 105)).rangeAt w2 0 [.int .u8 (c.toNat:Int),nm,.slice A acc.length cA,.string ⟨(c::r).toArray⟩])/\(L 10=true->(W.alloc (.cells #[(f.tag:Int),f.name,f.kind.signs,f.kind.base,f.kind.name,f.given] 105)).rangeAt w2 0 [.int .u8 (c.toNat:Int),nm,U 7,.string ⟨(c::r).toArray⟩]) /\
         (L 5=false->(W.alloc (.cells #[(f.tag:Int),f.name,f.kind.signs,f.kind.base,f.kind.name,f.given] 105)).rangeAt w4 0 [(f.tag:Int),f.name,f.kind.signs,f.kind.base,f.kind.name,f.given])/\(L 7=false->(W.alloc (.cells #[(f.tag:Int),f.name,f.kind.signs,f.kind.base,f.kind.name,f.given] 105)).ownsRow w3 105 6 (.slice A acc.length cA) acc.length (acc.flatMap S5))/\(L 7=true->(W.alloc (.cells #[(f.tag:Int),f.name,f.kind.signs,f.kind.base,f.kind.name,f.given] 105)).ownsRow w3 105 6 (U 7) (acc.length+1) (acc.flatMap S5++S5 f))
         from⟨fun j hj=>by rw[World.cell?_alloc_old _ _ _ (show g≠W.heap.size by omega)];exact r3 j hj,⟨ar r4.1 _,r4.2.belowAt (show w2.heap.size<W.heap.size by omega) ((At _ _).alloc (Ao _) _)⟩,fun h=>World.rangeAt_alloc (r5 h) _,fun h=>World.rangeAt_alloc (r6 h) _,fun h=>World.rangeAt_alloc (r7 h) _,fun h=>(r8 h).alloc _,fun h=>(r9 h).alloc _⟩)
        clear r1 r3 r4 r5 r6 r7 r8 r9 r0;go_simp;refine hK (.slice (W,0) 1 1) _ _ Ab Ab ⟨R1.o.alloc R1.o.size _,by simp;omega,HRR.o.1,HRR.o.2.1,HRR.o.2.2.1,HRR.o.2.2.2.1,HRR.o.2.2.2.2.1,HRR.o.2.2.2.2.2.1,HRR.o.2.2.2.2.2.2,fun _ _=>⟨W.heap.size,rfl,HF5.o⟩⟩ (by simp[Act.put,u5])
       ·obtain⟨r1,r2,r3,r4,r5,r6,r7,r8,r9,r0⟩:=HR.o;have h10:=(Bi Hdep.o 10 7 rfl hL)
        have h7:=r8 hL;obtain⟨q,e1,e2⟩:=r0 hpre.2 hL;obtain⟨i0,hi,hz0,hz1,hz2'⟩:=info_parts Tryz.infoIf;rw[if_pos di];refine wp_append_own W (.tmp 102) (.tmp 104) 159 rfl w3 105 i0 (.agg #[.int .i64 0,aa,aa,aa,aa,aa]) 6 88 underlying159 hi hz0 hz1 hz2' rfl aL (.slice A acc.length cA) acc.length (acc.flatMap S5) hpre.1.2 h7 ⟨q,0,none⟩ 1 1 (S5 f) e1 (by simp[S5]) ?_ (fun y hy=>Qia [f] y (by simpa using hy)) bh aH r2 ?_
        ·intro i x hx;rw[Qd0];have:=e2 i x hx;simpa using this
        intro v' w' hown' hgr _;have hbw:Below w3 W w':=(At _ _).grown hgr r2 (fun k hk=>(h7.lt k hk).1);refine hK v' w' _ Ab Ab ⟨r1.trans (hbw.mono hz6),ae r2 hbw.size,fun j hj=>(hbw.cell (p:=⟨g,j,none⟩) (show g<w3.heap.size by omega)).trans (r3 j hj),⟨Au r4.1 hz3 hbw,r4.2.belowAt hz3 hbw⟩,fun h=>Ax (r5 h) hz3 hbw,fun h=>absurd h10 (by rw[show L 10=true from h];decide),fun h=>absurd hpre.2 (by rw[Bi Hdep.o 6 5 rfl h];decide),fun h=>by simp at h,fun _=>hown',fun _ h=>by simp at h⟩ rfl
       ·have u0:=hpre.1.2;go_simp;exact hK w2.heap.size _ _ rfl Ab HR.o aJ
       ·have u8:=hpre.2;go_simp;exact hK (w2,2) _ _ rfl Ab HR.o aJ
       ·obtain⟨r1,r2,r3,r4,r5,r6,r7,r8,r9,r0⟩:=HR.o;have R1:=Aa r1;have l7:L 7=true:=by first|exact hpre.2.1|exact hpre.2.1.1
        have h5:=r5 hL;have h9:=r9 l7;obtain⟨A7,n7,c7,e7⟩:=Ys h9;rw[e7]at h9;obtain⟨y2,c2⟩:=Option.isSome_iff_exists.1 (r4.1 2 aL).1;rw[an]at c2;have z2:W.frozen? (w2,2)=false:=by simpa using(r4.1 2 aL).2
        have hT10:=@Aa ((W.setCell ⟨w2.heap.size,2,none⟩ (.slice A7 n7 c7)).rangeAt w2 0 [.int .u8 (c.toNat:Int),nm,(.slice A7 n7 c7),.string ⟨(c::r).toArray⟩]) (Cx [.int .u8 (c.toNat:Int),nm] [.slice A acc.length cA] [.string ⟨(c::r).toArray⟩] [.slice A7 n7 c7] h5 rfl);have hK10:=@Aa ((W.setCell ⟨w2.heap.size,2,none⟩ (.slice A7 n7 c7)).there w2 0 4) (aj r4.1 w2 2 [.slice A7 n7 c7]);have hBk10:=Aa (r4.2.set (o:=2) (.slice A7 n7 c7))
        have hP10:=Aa (show ∀j (hj:j<ps.length),(W.setCell ⟨w2.heap.size,2,none⟩ (.slice A7 n7 c7)).cell? ⟨g,j,none⟩=some (.string ⟨ps[j].toArray⟩)from fun j hj=>by
         rw[World.cell?_setCell_other _ _ _ _ ck];exact r3 j hj)
        have hO10:=@Aa ((W.setCell ⟨w2.heap.size,2,none⟩ (.slice A7 n7 c7)).ownsRow w3 105 6 (.slice A7 n7 c7) (acc.length+1) (acc.flatMap S5++S5 f)) (h9.kept (Pq W _ (.slice A7 n7 c7)) (.inr (fun e=>by have:=(h9.lt _ e).1;simp at this;omega)));have hz10:w3.heap.size<=(W.setCell ⟨w2.heap.size,2,none⟩ (.slice A7 n7 c7)).heap.size:=by simpa using r2
        have hB10:=@Aa (Below w w (W.setCell ⟨w2.heap.size,2,none⟩ (.slice A7 n7 c7))) (r1.setCell hz2 _);clear r1 r3 r4 r5 r6 r7 r8 r9 r0 h5 h9;go_simp;exact hK undef _ _ Ab Ab ⟨hB10.o,hz10,hP10.o,⟨hK10.o,hBk10.o⟩,fun h=>by simp at h,fun _=>by show World.rangeAt _ _ _ [_,_,U 7,_];rw[e7];exact hT10.o,fun h=>absurd l7 (by rw[(Bi Hdep.o 7 6 rfl (Bi Hdep.o 6 5 rfl h))];decide),fun h=>absurd l7 (by rw[show L 7=false from h];decide),fun _=>by show World.ownsRow _ _ _ _ (U 7) _ _;rw[e7];exact hO10.o,fun _ h=>absurd l7 (by rw[show L 7=false from h];decide)⟩ (by simp[Act.put,hpre,e7])
      rintro L U W hL hφ hR;obtain⟨hbW,hzW,hprW,hKW,_,hTW,_,_,hoW,_⟩:=hR;have hTW':=hTW (hL 10 aL);have hoW':=hoW (hL 7 aL);generalize U 7=V at hTW' hoW';have HbW:=Aa hbW;have HprW:=Aa hprW;have HKW:=Aa hKW.1;have HBW:=Aa hKW.2;have HTW:=Aa hTW';have HoW:=Aa hoW';clear hL hφ hbW hprW hKW hTW hoW hTW' hoW';go_wp2_with fail;go_roundw
      case rel=>exact⟨k+1,acc++[f],V,by go_num,by omega,by simp;omega,Hft4.o,by rw[ai,List.flatMap_append,show [f].flatMap S5=S5 f from by simp];exact HoW.o,HbW.o,hzW,HprW.o,HTW.o,HKW.o,HBW.o⟩
      case measure=>simp[intOf];omega
  ·have i2:¬(k:Int)<(ps.length:Int):=aH;have Hfin:=Aa (show Eh (c::r)=some ⟨c,nm,acc⟩by rw[hft.o,List.drop_of_length_le aH];rfl);go_wp2_with fail;go_ret2;refine Es.yes Hfin.o (b:=w2.heap.size) (fv:=.slice A acc.length cA) rfl hz2 ?_ (fun k hk=>by have:=(hown.o.lt k hk).1;omega) hbr.o;refine⟨show w2.heap.size<wo.heap.size by omega,hB.o,by simpa using Ac hT.o 0 rfl,by simpa using Ac hT.o 1 rfl,by simpa using Ac hT.o 2 rfl,?_,A,cA,rfl,ha8,Hrow.o⟩;have hB:=(E5.1 Hfin.o).2;show _=some (Value.string ⟨(Yw ⟨c,nm,acc⟩).toArray⟩);rw[hB];simpa using Ac hT.o 3 rfl
theorem Zh(s:List UInt8)(w:World)(hs:s.length<=4000000):
  Calls prog 135 #[s] w (Es (Eh s) w):=by
 cases s with
 |nil=>exact Qfe w
 |cons c r=>
  simp at hs;by_cases hc:Ds c
  ·by_cases h:(Cy 61 r).2.2=false\/Av (Cy 61 r).1=false\/(Cy 61 r).2.1=[]
   ·exact Qcm c r w aH hc h
   simp only[not_or]at h;exact Qcw c r (Cy 61 r).1 (Cy 61 r).2.1 w aH hc (Prod.ext rfl (Prod.ext rfl (by simpa using h.1))) (by simpa using h.2.1) h.2.2
  exact Qcv c r w aH hc
theorem Qbw(p:Value)(xs:List PT)(k:Kd)(w:World)(h:Qjh w p xs)(hk:k.name.length<=100):
  Calls prog 97 #[p,J2 k] w fun e w'=>e=.returned (.bool (decide (B9 (Ai xs) k)))/\Below w w w':=by
 obtain⟨b,mb,rfl,hb,hm,hn⟩:=h;have Hn:=Aa hn;clear hn;unfold J2;generalize hd:(.cells #[k.signs,k.base,k.name] 62:Obj)=ob;have hl0:w.heap.size<(w.alloc ob).heap.size:=aM;have x1:(w.alloc ob).cell? (w,1)=k.base:=by rw[<-hd];simp
 have x2:(w.alloc ob).cell? (w,2)=k.name:=by rw[<-hd];simp
 have x3:(w.alloc ob).cell? (b,1)=some (.map (some mb)):=by rw[World.cell?_alloc_old _ _ _ (show b≠w.heap.size by omega)];exact hm
 have hlook:∀q,(Instr.lookup 156 (.map (some mb)) k.name false).run prog ((w.alloc ob).drewN q)=.ok (Pb (Ex xs k.name)) ((w.alloc ob).drewN q):=fun q=>Je (Dm.below (Hn.o.alloc _) (below_drewN (At _ _) q)) k.name aH;have Hd:=Aa hd
 have Hr:=Aa (show decide (B9 (Ai xs) k)=(decide (k.base≠[64]) || (Ex xs k.name).isSome)by
  have e:B9 (Ai xs) k↔(k.base=[64]->(Ex xs k.name).isSome=true):=by unfold B9;rw[Jt];simp
  by_cases h:k.base=[64]
  ·cases hf:Ex xs k.name with
   |none=>rw[aC (fun h2=>by have:=e.1 h2 h;rw[hf]at this;cases this)];simp[h]
   |some x=>rw[aD (e.2 (fun _=>by rw[hf];rfl))];simp
  rw[aD (e.2 (fun h2=>absurd h2 h))];simp[h])
 have Hb:=@Aa (Below w w (w.alloc ob)) ((At _ _).alloc (Ao _) _);go_enter func97,ntmps97;rcases Decidable.em (k.base=[64])with h64|h64
 ·have t1:(k.base != [64])=false:=ew;have H64:=Aa h64;clear h64 hd hl0;go_wp2_with fail;rw[Hd.o];cases hf:Ex xs k.name with
  |none=>
   rw[hf]at hlook;have Hf:=Aa hf;clear hf;unfold Pb at hlook;refine Be [5,6,7,8,9,10,11,12,13,14,15,16,17,4] aP aP aP (fun u=>by dsimp only[Br,Bk,List.set,an,Nat.reduceAdd])
    (fun i v W=>match i with|0=>v=(w,1)|1=>v=k.base|2=>v=.bool false|3=>v=.bool false|4=>v=b|5=>v=b|6=>v=(b,1)|7=>v=.map (some mb)|8=>v=(w,2)|9=>v=k.name|10=>v=.pointer none|11=>v=.bool false|12=>v=.bool false|13=>v=.bool false|_=>True) (fun L U W=>∃q,W=(w.alloc ob).drewN q) (fun _ _=>True) (fun _ _ _ _ _ h=>h) ⟨1,rfl⟩ ?_ ?_
   ·exact gf
   rintro L U W hL hφ ⟨q,rfl⟩;have e13:U 13=.bool false:=hφ 13 aL;simp only[e13];go_wp2_with fail;go_ret;exact⟨D2 (Cn (by rw[Hr.o,Hf.o];simp[H64.o])),below_drewN Hb.o _⟩
  |some x=>
   rw[hf]at hlook;have Hf:=Aa hf;clear hf;unfold Pb PT.ptr at hlook;refine Be [5,6,7,8,9,10,11,12,13,14,15,16,17,4] aP aP aP (fun u=>by dsimp only[Br,Bk,List.set,an,Nat.reduceAdd])
    (fun i v W=>match i with|0=>v=(w,1)|1=>v=k.base|2=>v=.bool false|3=>v=.bool false|4=>v=b|5=>v=b|6=>v=(b,1)|7=>v=.map (some mb)|8=>v=(w,2)|9=>v=k.name|10=>v=x.blk|11=>v=.bool true|12=>v=.bool true|13=>v=.bool true|_=>True) (fun L U W=>∃q,W=(w.alloc ob).drewN q) (fun _ _=>True) (fun _ _ _ _ _ h=>h) ⟨1,rfl⟩ ?_ ?_
   ·exact gf
   rintro L U W hL hφ ⟨q,rfl⟩;have e13:U 13=.bool true:=hφ 13 aL;simp only[e13];go_wp2_with fail;go_ret;exact⟨D2 (Cn (by rw[Hr.o,Hf.o];simp)),below_drewN Hb.o _⟩
 have t1:(k.base != [64])=true:=ew;have H64:=Aa h64;clear h64 hd hl0;go_wp2_with fail;rw[Hd.o];refine Be [5,6,7,8,9,10,11,12,13,14,15,16,17,4] aP aP aP (fun u=>by dsimp only[Br,Bk,List.set,an,Nat.reduceAdd])
  (fun i v W=>match i with|0=>v=(w,1)|1=>v=k.base|2=>v=.bool true|3=>v=.bool true|12=>v=.bool true|13=>v=.bool true|_=>True) (fun L U W=>∃q,W=(w.alloc ob).drewN q) (fun _ _=>True) (fun _ _ _ _ _ h=>h) ⟨1,rfl⟩ ?_ ?_
 ·exact gf
 rintro L U W hL hφ ⟨q,rfl⟩;have e13:U 13=.bool true:=hφ 13 aL;simp only[e13];go_wp2_with fail;go_ret;exact⟨D2 (Cn (by rw[Hr.o];simp[H64.o])),below_drewN Hb.o _⟩
theorem Sh{S:List Ty}{n:Nat}{t:Ty}(h:E8 S t=none):Bs S (n+1) t=true:=by rw[Bs,h]
theorem Qh8{S:List Ty}{n:Nat}{t u:Ty}(h:E8 S t=some u):Bs S (n+1) t=Bs S n u:=by rw[Bs,h]
theorem Qei{S:List Ty}{t:Ty}(h:t.sort≠85):E8 S t=none:=if_neg h
theorem Qfi{S:List Ty}{t:Ty}{f:Fd}{fs:List Fd}(h:t.sort=85)(hf:t.fields=f::fs):E8 S t=if f.kind.signs=[]/\f.kind.base=[64]then Bw S f.kind.name else none:=by
 unfold E8;rw[if_pos h,hf]
theorem Qbr{t:Ty}(h:Ek t)(hs:t.sort=85):∃f fs,t.fields=f::fs/\Cu f.kind:=by
 obtain⟨_,_,h3,_,h5⟩:=h;cases hf:t.fields with
 |nil=>have:=h5 hf;rw[hs]at this;exact absurd this aL
 |cons f fs=>exact⟨f,fs,rfl,((h3.1 f dB).2.2.2.2 dE).1⟩
theorem Qfj(p:Value)(xs:List PT)(x:PT)(w:World)(h:Qjh w p xs)(hT:∀y∈xs,Rg w y)(hok:∀y∈xs,Ek y.ty)(hS:Fy (Ai xs))(hx:x∈xs):
  Calls prog 136 #[p,x.ptr] w fun e w'=>e=.returned (.bool (Bs (Ai xs) 9 x.ty))/\Below w w w':=by
 have Hmap:=Aa h;obtain⟨b,mb,rfl,hb,hm,hn⟩:=h;have HT:=Aa hT;have Hok:=Aa hok;have HS:=Aa hS;have Hx:=Aa hx;have Hn:=Aa hn;have Hm:=Aa hm;clear hT hok hS hx hn hm;unfold PT.ptr;go_enter func136,ntmps136;go_wp2_with fail;go_loopw [1,6] (fun t i wr=>∃(n:Nat) (y:PT),i=.int .i64 n/\n<=9/\t=y.blk/\Hid (y∈xs)/\Hid (Bs (Ai xs) 9 x.ty=Bs (Ai xs) (9 - n) y.ty)/\Hid (Below w w wr)) (fun _ i _=>9 - (intOf i).toNat)
 case atStart=>exact⟨0,x,rfl,by omega,rfl,Hx.o,rfl,At _ _⟩
 case round=>
  obtain⟨n,y,rfl,hn9,rfl,hy,he,hbr⟩:=hrel;have n1:(0:Int)<=(n:Int):=aH;obtain⟨hyb,_,y0,y1,y2,y3,A,cA,hyf,hl8,hrow⟩:=(HT.o y hy.o).below hbr.o;have Hrow:=Aa hrow;have hzw:=hbr.o.size;rw[hyf]at y2;clear hrow hyf y1 y3;by_cases hlt:n<9
  ·have n2:(n:Int)<9:=aH;have he2:=Aa (show Bs (Ai xs) 9 x.ty=Bs (Ai xs) (8 - n+1) y.ty by rw[he.o,show 9 - n=8 - n+1 by omega]);by_cases h85:y.ty.sort=85
   ·have t1:((y.ty.sort.toNat:Int) != 85)=false:=Ky (d:=85) h85;obtain⟨f,fs,hf,hkd⟩:=Qbr (Hok.o y hy.o) h85;have Hnext:=Aa (Qfi (S:=Ai xs) h85 hf);have hpos:0<y.ty.fields.length:=dB;obtain⟨bA,oA,rfl,hbA,hrg⟩:=Rm.range Hrow.o hpos;have hf0:y.ty.fields[0]=f:=by simp[hf]
    rw[hf0,Nat.zero_mul,Nat.add_zero]at hrg;have Hrg:=@Aa (wr.rangeAt bA (oA+2) [f.kind.signs,f.kind.base,f.kind.name]) (Qac [(f.tag:Int),f.name] _ [f.given] hrg);have hp1:(0:Int)<(y.ty.fields.length:Int):=aH;have Href:=Aa (HS.o y.ty (ap (f:=(·.ty)) hy.o) dy f dB);have Hkd:=Aa hkd;have hnl:=Kr hkd;clear h85 hf hf0 hrg hkd;have hbb:=Aa ((Hm.o));by_cases hsg:f.kind.signs=[]
    ·have s1:(f.kind.signs != [])=false:=cG;have s2:f.kind.signs.isEmpty=true:=cG;have s4:(!f.kind.signs.isEmpty)=false:=cG;by_cases h64:f.kind.base=[64]
     ·have s3:(f.kind.base == [64])=true:=ew;have s5:(f.kind.base != [64])=false:=ew;have hsome:=Href.o h64;rw[Jt]at hsome;cases hz:Ex xs f.kind.name with
      |none=>rw[hz]at hsome;cases hsome
      |some z=>
       have Hz:=Aa (show Bs (Ai xs) 9 x.ty=Bs (Ai xs) (8 - n) z.ty from by
        rw[he2.o];exact Qh8 (by rw[Hnext.o,if_pos ⟨hsg,h64⟩,Jt,hz];rfl))
       have Hzm:=Aa (Gx hz).1;generalize hd:(.cells #[f.kind.signs,f.kind.base,f.kind.name] 62:Obj)=ob;have x2:(wr.alloc ob).cell? (wr,2)=f.kind.name:=by rw[<-hd];simp
       have x3:(wr.alloc ob).cell? (b,1)=some (.map (some mb)):=by
        rw[World.cell?_alloc_old _ _ _ (show b≠wr.heap.size by omega)];exact(hbr.o.cell (p:=⟨b,1,none⟩) hb).trans Hm.o
       have hlook:∀q,(Instr.lookup 156 (.map (some mb)) f.kind.name false).run prog ((wr.alloc ob).drewN q)=.ok z.blk ((wr.alloc ob).drewN q):=fun q=>by
        have:=Je (Dm.below (Dm.alloc (Dm.below Hn.o hbr.o) ob) (below_drewN (At _ _) q)) f.kind.name aH;rw[hz]at this;exact this
       have Hbb:=@Aa (Below w w (wr.alloc ob)) (hbr.o.alloc hzw _);have Hd:=Aa hd;clear hd hsg h64 hz hsome;go_wp2_with ((with_reducible refine wpList_load_mid (op:=⟨_,.load 62 _,_,_,_,none⟩) rfl 62 _ rfl bA (oA+2) ?_ _ _ Hrg.o underlying62 ?_ ?_ ?_);rfl;rfl;kernel_rfl)
       rw[Hd.o];refine Be [28,29,30,31,32,33,34,1] aP aP aP (fun u=>by dsimp only[Br,Bk,List.set,an,Nat.reduceAdd])
        (fun i v W=>match i with|0=>v=b|1=>v=b|2=>v=(b,1)|3=>v=.map (some mb)|4=>v=(wr,2)|5=>v=f.kind.name|6=>v=z.blk|7=>v=z.blk|_=>True) (fun L U W=>∃q,W=(wr.alloc ob).drewN q) (fun _ _=>True) (fun _ _ _ _ _ h=>h) ⟨1,rfl⟩ ?_ ?_
       ·repeat (first|exact An.nil|(refine An.cons ?_ ?_;rotate_left))
        all_goals
         rintro L U W hL hpre ⟨q,rfl⟩ hun hdep K hK;have hlq:=hlook q;clear hun hdep;first|(simp[Region.binds]at hpre;done)|simp[Region.binds]at hpre|clear hpre
         go_simp;first|exact hK _ _ _ rfl Ab ⟨q,rfl⟩ rfl|exact hK _ _ _ rfl Ab ⟨q,rfl⟩ aJ
       rintro L U W hL hφ ⟨q,rfl⟩;have e7:U 7=z.blk:=hφ 7 aL;simp only[e7];clear hφ hL hlook x2 x3;go_wp2_with fail;go_roundw
       case rel=>exact⟨n+1,z,by go_num,by omega,rfl,Hzm.o,by show _=Bs (Ai xs) (9 - (n+1)) z.ty;rw[Hz.o,show 9 - (n+1)=8 - n by omega],below_drewN Hbb.o _⟩
       case measure=>simp[intOf];omega
     have s3:(f.kind.base == [64])=false:=ew;have s5:(f.kind.base != [64])=true:=ew;have Hend:=Aa (he2.o.trans (Sh (by rw[Hnext.o,if_neg (fun h=>h64 h.2)])));clear hsg h64;go_wp2_with ((with_reducible refine wpList_load_mid (op:=⟨_,.load 62 _,_,_,_,none⟩) rfl 62 _ rfl bA (oA+2) ?_ _ _ Hrg.o underlying62 ?_ ?_ ?_);rfl;rfl;kernel_rfl)
     exact jk
    have s1:(f.kind.signs != [])=true:=cG;have s2:f.kind.signs.isEmpty=false:=cG;have s4:(!f.kind.signs.isEmpty)=true:=cG;have Hend:=Aa (he2.o.trans (Sh (by rw[Hnext.o,if_neg (fun h=>hsg h.1)])));clear hsg;go_wp2_with ((with_reducible refine wpList_load_mid (op:=⟨_,.load 62 _,_,_,_,none⟩) rfl 62 _ rfl bA (oA+2) ?_ _ _ Hrg.o underlying62 ?_ ?_ ?_);rfl;rfl;kernel_rfl)
    exact jk
   have t1:((y.ty.sort.toNat:Int) != 85)=true:=N8 (d:=85) h85;have Hend:=Aa (he2.o.trans (Sh (Qei h85)));clear h85;go_wp2_with fail;go_ret;exact⟨D2 (Cn Hend.o.symm),hbr.o⟩
  ·obtain rfl:n=9:=aH;have Hend:=@Aa (Bs (Ai xs) 9 x.ty=false) he.o;go_wp2_with fail;go_ret;exact⟨D2 (Cn Hend.o.symm),hbr.o⟩
theorem Rg.kept{w w':World}{x:PT}{row:Option Nat}(h:Rg w x)(hg:w.grownBy w' row)(h1:row≠some x.blk)(h2:∀k,0<x.ty.fields.length->x.fv.ownBlock=some k->row≠some k):Rg w' x:=by
 obtain⟨h0,hk,a0,a1,a2,a3,A,c,e,hl,hr⟩:=h;have hne:some x.blk≠row:=fun e=>h1 e.symm;refine⟨ad h0 hg.size,hk.grown h0 hg hne,hg.cell a0 hne,hg.cell a1 hne,hg.cell a2 hne,hg.cell a3 hne,A,c,e,hl,hr.1,hr.2.1,fun hn=>?_⟩;obtain⟨b,off,eA,hb,hc⟩:=hr.2.2 hn;have hne2:some b≠row:=fun e2=>h2 b aH (by rw[e,eA];rfl) e2.symm;exact⟨b,off,eA,ad hb hg.size,fun j u hu=>hg.cell (hc j u hu) hne2⟩
theorem Rg.fvlt{w:World}{x:PT}(h:Rg w x){k:Nat}(hn:0<x.ty.fields.length)(hk:x.fv.ownBlock=some k):k<w.heap.size:=by
 obtain⟨_,_,_,_,_,_,A,c,e,_,hr⟩:=h;obtain⟨b,off,eA,hb,_⟩:=hr.2.2 aH;rw[e,eA]at hk;simp only[Value.ownBlock,ak]at hk;omega
def Qdf(lo:Nat)(x:PT):Prop:=lo<=x.blk/\∀k,0<x.ty.fields.length->x.fv.ownBlock=some k->lo<=k
def Qgl(v:Value)(x:PT):Prop:=v.ownBlock≠some x.blk/\∀k,0<x.ty.fields.length->x.fv.ownBlock=some k->v.ownBlock≠some k
def Va(w:World)(lo:Nat)(v:Value)(xs:List PT):Prop:=(∀x∈xs,Rg w x/\Qdf lo x/\Qgl v x)/\xs.Pairwise fun x y=>x.blk≠y.blk
theorem Va.far{w w':World}{lo b:Nat}{v:Value}{xs:List PT}(h:Va w lo v xs)(hg:w.grownBy w' (some b))(hb:b<lo):Va w' lo v xs:=
 ⟨fun x hx=>by
  obtain⟨h1,h2,h3⟩:=h.1 x hx;refine⟨h1.kept hg (fun e=>?_) (fun k hn hk e=>?_),h2,h3⟩
  ·injection e with e;have:=h2.1;omega
  injection e with e;have:=h2.2 k hn hk;omega,h.2⟩
theorem Va.below{w w':World}{lo:Nat}{v:Value}{xs:List PT}(h:Va w lo v xs)(hb:Below w w w'):Va w' lo v xs:=
 ⟨fun x hx=>⟨(h.1 x hx).1.below hb,(h.1 x hx).2⟩,h.2⟩
theorem Va.push{wo w3 w5:World}{lo base n k1:Nat}{e:TypeId}{v v5:Value}{cs:List Value}{xs:List PT}{x:PT}(h:Va wo lo v xs)(hb:Below wo wo w3)(hown:wo.ownsRow base e k1 v n cs)(hx:Rg w3 x)(hxb:wo.heap.size<=x.blk)
  (hxf:∀k,x.fv.ownBlock=some k->wo.heap.size<=k) (hlo:lo<=wo.heap.size) (hg:w3.grownBy w5 v.ownBlock) (hwh:v5.ownBlock=v.ownBlock\/∃k,v5.ownBlock=some k/\w3.heap.size<=k):Va w5 lo v5 (xs++[x]):=by
 have hall:∀y∈xs++[x],Rg w3 y/\Qdf lo y/\Qgl v y:=by
  intro y hy;rcases ag.1 hy with hy|hy
  ·obtain⟨h1,h2⟩:=h.1 y hy;exact⟨h1.below hb,h2⟩
  simp at hy;subst hy;refine⟨hx,⟨by omega,fun k _ hk=>by have:=hxf k hk;omega⟩,fun e=>?_,fun k _ hk e=>?_⟩
  ·have:=(hown.lt _ e).2;omega
  have:=(hown.lt _ e).2;have:=hxf k hk;omega
 refine⟨fun y hy=>?_,?_⟩
 ·obtain⟨h1,h2,h3⟩:=hall y hy;refine⟨h1.kept hg h3.1 h3.2,h2,?_⟩;rcases hwh with hwh|⟨k,hwh,hk⟩
  ·unfold Qgl;rw[hwh];exact h3
  refine⟨fun e=>?_,fun k2 hn hk2 e=>?_⟩
  ·rw[hwh]at e;injection e with e;have:=h1.1;omega
  rw[hwh]at e;injection e with e;have:=h1.fvlt hn hk2;omega
 rw[List.pairwise_append];refine⟨h.2,by simp,fun y hy z hz=>?_⟩;simp at hz;subst hz;have:=(h.1 y hy).1.1;omega
def T6(lo:Nat)(w:World)(p:Value)(xs:List PT):Prop:=
 ∃b A c mb,p=.pointer (some ⟨b,0,none⟩)/\b<w.heap.size/\w.cell? ⟨b,0,none⟩=some (.slice A xs.length c)/\w.cell? ⟨b,1,none⟩=some (.map (some mb))/\Bj w A xs.length (xs.map (·.ptr))/\Nu w mb xs/\(∀x∈xs,Rg w x)/\(xs.Pairwise fun x y=>x.blk≠y.blk) /\
  lo<=b/\lo<=mb/\(∀g o,0<xs.length->A=some ⟨g,o,none⟩->lo<=g)/\∀x∈xs,Qdf lo x
theorem T6.isc{lo:Nat}{w:World}{p:Value}{xs:List PT}(h:T6 lo w p xs):Xc w p xs:=by
 obtain⟨b,A,c,mb,h0,h1,h2,h3,h4,h5,h6,h7,_⟩:=h;exact⟨b,A,c,mb,h0,h1,h2,h3,h4,h5,h6,h7⟩
theorem T6.below{lo:Nat}{w w':World}{p:Value}{xs:List PT}(h:T6 lo w p xs)(hb:Below w w w'):T6 lo w' p xs:=by
 obtain⟨b,A,c,mb,e,h0,h1,h2,h3,h4,h5,h6,h7⟩:=h;obtain⟨hc,_,hz⟩:=By hb;exact⟨b,A,c,mb,e,hz _ h0,(hc _ _ h0).trans h1,(hc _ _ h0).trans h2,h3.below hb,Dm.below h4 hb,fun x hx=>(h5 x hx).below hb,h6,h7⟩
theorem T6.far{lo b0:Nat}{w w':World}{p:Value}{xs:List PT}(h:T6 lo w p xs)(hg:w.grownBy w' (some b0))(hb0:b0<lo):T6 lo w' p xs:=by
 obtain⟨b,A,c,mb,e,h0,h1,h2,h3,h4,h5,h6,l1,l2,l3,l4⟩:=h;have hne:some b≠some b0:=ck;refine⟨b,A,c,mb,e,ad h0 hg.size,hg.cell h1 hne,hg.cell h2 hne,⟨h3.1,h3.2.1,fun hn=>?_⟩,Dm.kept h4 hg ck,fun x hx=>(h5 x hx).kept hg (fun e=>?_) (fun k hn hk e=>?_),h6,l1,l2,l3,l4⟩
 ·obtain⟨g,o,eA,hgl,hc⟩:=h3.2.2 hn;have:=l3 g o hn eA;exact⟨g,o,eA,ad hgl hg.size,fun j u hu=>hg.cell (hc j u hu) (by intro e;injection e with e;simp at e;omega)⟩
 ·injection e with e;have:=(l4 x hx).1;omega
 injection e with e;have:=(l4 x hx).2 k hn hk;omega
def Gq(o:Option (List Ty))(w:World)(e:Ending)(w':World):Prop:=
 (match o with
  |some S=>∃p xs,Ai xs=S/\e=.returned (.tuple #[p,.bool true])/\T6 w.heap.size w' p xs
  |none=>∃p:Option Addr,e=.returned (.tuple #[.pointer p,.bool false]))/\Below w w w'
theorem Gq.no{w w':World}{e:Ending}{o:Option (List Ty)}(ho:o=none){p:Option Addr}(he:e=.returned (.tuple #[.pointer p,.bool false]))(hb:Below w w w'):Gq o w e w':=by
 rw[ho];exact⟨⟨p,he⟩,hb⟩
theorem Gq.yes{w w':World}{e:Ending}{o:Option (List Ty)}{p:Value}{xs:List PT}(ho:o=some (Ai xs))(he:e=.returned (.tuple #[p,.bool true]))(hs:T6 w.heap.size w' p xs)(hb:Below w w w'):Gq o w e w':=by
 rw[ho];exact⟨⟨p,xs,rfl,he,hs⟩,hb⟩
theorem Qau{xs:List PT}{x:PT}(h:Ex xs x.ty.name=none)(l:Lit)(hl:WideAt.IsKeyLit l):(if l.sameKey (.string x.ty.name)=true then x.ptr else Vz xs l)=Vz (xs++[x]) l:=by
 by_cases e:l=.string x.ty.name
 ·subst e;rw[if_pos (WideAt.sameKey_self hl)];unfold Ex at h;show x.ptr=Pb ((xs++[x]).find? fun y=>decide (y.ty.name=x.ty.name));rw[List.find?_append,h];simp[Pb]
 rw[if_neg (fun hh=>e ((WideAt.sameKey_iff (show WideAt.IsKeyLit (.string x.ty.name)from Ab)).1 hh))];cases l with
 |string s=>
  have hne:¬x.ty.name=s:=fun h2=>e (by rw[h2]);unfold Vz Ex;simp only;rw[List.find?_append];simp[hne]
 |_=>rfl
theorem Vc{xs:List PT}{n:Cq}:Ex xs n=none↔(Ai xs).any (fun u=>decide (u.name=n))=false:=by
 unfold Ex Ai;rw[List.find?_eq_none,List.any_map];simp
theorem Tryz.infoPt:(prog.info? 100).map (fun i=>(i.zero,i.size,i.bytes))=some (some (.pointer none),1,8):=aP
theorem Zj(s:List UInt8)(w:World)(hs:s.length<=4000000)(h:400<s.length):
  Calls prog 95 #[s] w (Gq (Bz s) w):=by
 have HF:=@Aa (Bz s=none) (if_pos h);have t1:(400:Int)<(s.length:Int):=aH;go_enter func95,ntmps95;go_wp2_with fail;go_ret2;exact Gq.no HF.o rfl (At _ _)
theorem Qb9(s:List UInt8)(w:World)(hs:s.length<=400):
  Calls prog 95 #[s] w (Gq (Bz s) w):=by
 have HF:=@Aa (Bz s=(match Fc (s.length+1) s []with|none=>none|some S=>if Fy S/\(∀t∈S,Bs S 9 t=true)then some S else none)) (if_neg aH);have t1:¬(400:Int)<(s.length:Int):=aH;have hmm:=@run_makeMap prog;go_enter func95,ntmps95;go_wp2_with fail;clear hmm;have HM0:=@Aa (Dm prog 9 (.pointer none) ((w.alloc (.map #[] 0)).alloc (.cells #[.slice none 0 0,.map (some w.heap.size)] 158)) w 0 (Vz [])) (((Dm.made w prog 9 (.pointer none)).alloc _).of_eq (fun l hl=>by cases l<;>rfl))
 have HR0:=Aa (show ((w.alloc (.map #[] 0)).alloc (.cells #[.slice none 0 0,.map (some w.heap.size)] 158)).rangeAt (w.heap.size+1) 0 [.slice none 0 0,.map (some w.heap.size)]from by
  have:=Cj (w.alloc (.map #[] 0)) [.slice none 0 0,.map (some w.heap.size)] 158;simpa using this)
 have HK0:=Aa (show ((w.alloc (.map #[] 0)).alloc (.cells #[.slice none 0 0,.map (some w.heap.size)] 158)).there (w.heap.size+1) 0 2 from by
  have:=Ct (w.alloc (.map #[] 0)) [.slice none 0 0,.map (some w.heap.size)] 158;simpa using this)
 have HB0:=@Aa (Below w w ((w.alloc (.map #[] 0)).alloc (.cells #[.slice none 0 0,.map (some w.heap.size)] 158))) (((At _ _).alloc (Ao _) _).alloc aM _);have HO0:=Aa (World.ownsRow_nil ((w.alloc (.map #[] 0)).alloc (.cells #[.slice none 0 0,.map (some w.heap.size)] 158)) (w.heap.size+2) 100 1)
 go_loopw [0] (fun l wr=>∃(u:List UInt8) (fuel:Nat) (xs:List PT) (tv:Value),l=u/\u.length<=s.length/\u.length<fuel/\Hid (Fc (s.length+1) s []=Fc fuel u (Ai xs))/\xs.length<=8 /\
   Hid (wr.rangeAt (w.heap.size+1) 0 [tv,.map (some w.heap.size)])/\Hid (wr.there (w.heap.size+1) 0 2)/\Hid (wr.ownsRow (w.heap.size+2) 100 1 tv xs.length (xs.map (·.ptr))) /\
   Hid (Nu wr w.heap.size xs)/\Hid (Va wr (w.heap.size+2) tv xs)/\Hid (Below w w wr)/\w.heap.size+2<=wr.heap.size) (fun l _=>Qg l)
 case atStart=>exact⟨s,s.length+1,[],.slice none 0 0,rfl,Ao _,by omega,rfl,by simp,HR0.o,HK0.o,HO0.o,HM0.o,⟨by simp,List.Pairwise.nil⟩,HB0.o,by simp⟩
 case round=>
  clear HM0 HR0 HK0 HB0 HO0;obtain⟨wo,rfl⟩:∃wo:World,wo=wr:=⟨_,rfl⟩
  obtain⟨u,fuel,xs,tv,rfl,hul,hfu,hlin,hx8,hT,hK,hown,hnm,hty,hbr,hzr⟩:=hrel;obtain⟨A,cA,rfl,hrow⟩:=Bj.own hown.o;have Hrow:=Aa hrow;have s0:wo.cell? (w,1,0)=some (.slice A xs.length cA):=by simpa using Ac hT.o 0 rfl
  have s1:wo.cell? (w,1,1)=some (.map (some w.heap.size)):=by simpa using Ac hT.o 1 rfl
  obtain⟨fuel,rfl⟩:∃f,fuel=f+1:=⟨fuel - 1,by omega⟩
  clear hrow;by_cases hu:u=[]
  ·subst hu;have Hlin:=Aa (show Fc (s.length+1) s []=some (Ai xs)by rw[hlin.o];simp[Fc]);have hgood:=Rw.1 Hlin.o;have Htok:=@Aa (∀x∈xs,Ek x.ty) (fun x hx=>hgood.1.1 x.ty (ap (f:=(·.ty)) hx));have HF2:=@Aa (Bz s=if Fy (Ai xs)/\(∀t∈Ai xs,Bs (Ai xs) 9 t=true)then some (Ai xs)else none) (by rw[HF.o,Hlin.o]);have HSC:=@Aa (Xc wo (w,1,0) xs) ⟨w.heap.size+1,A,cA,w.heap.size,rfl,by omega,s0,s1,by have:=Hrow.o;simpa using this,hnm.o,fun x hx=>(hty.o.1 x hx).1,hty.o.2⟩;have Hrow2:=@Aa (Bj wo A xs.length (xs.map (·.ptr))) Hrow.o
   have HSL:=Aa (show T6 w.heap.size wo (w,1,0) xs from⟨w.heap.size+1,A,cA,w.heap.size,rfl,by omega,s0,s1,Hrow2.o,hnm.o,fun x hx=>(hty.o.1 x hx).1,hty.o.2,by omega,Ao _,fun g o _ eA=>by
    have:=(hown.o.lt g (by rw[eA];rfl)).1;omega,fun x hx=>⟨by have:=(hty.o.1 x hx).2.1.1;omega,fun k hn hk=>by have:=(hty.o.1 x hx).2.1.2 k hn hk;omega⟩⟩)
   clear hgood hlin hT hK hown hnm hty Hrow HF Hlin;have S0:=Aa s0;go_wp2_with fail;clear s0 s1;go_loopw [84] (fun i wr=>∃k:Nat,i=.int .i64 k/\k<=xs.length/\Hid (∀x∈xs.take k,x.ty.sort≠69->∀f∈x.ty.fields,B9 (Ai xs) f.kind)/\Hid (Below wo wo wr)) (fun i _=>xs.length - (intOf i).toNat)
   case atStart=>exact⟨0,rfl,ah _,by intro x hx;simp at hx,At _ _⟩
   case round=>
    obtain⟨wp,rfl⟩:∃wp:World,wp=wr:=⟨_,rfl⟩
    obtain⟨k,rfl,hk,hin,hbp⟩:=hrel;have k1:(0:Int)<=(k:Int):=aH;have hzp:=hbp.o.size;by_cases hkl:k<xs.length
    ·have k2:(k:Int)<(xs.length:Int):=aH;obtain⟨bA,oA,rfl,hbA,cl⟩:=(Hrow2.o.below hbp.o).at_ hkl;rw[List.getElem_map]at cl;have Hts:=Aa (Bt xs k hkl);have Hmem:=Aa (af hkl);generalize xs[k]=x at cl Hts Hmem;unfold PT.ptr at cl;have Hxt:=Aa (Htok.o x Hmem.o);obtain⟨hyb,_,y0,y1,y2,y3,A7,c7,hyf,hl8,hrow7⟩:=(HSC.o.tys x Hmem.o).below hbp.o;rw[hyf]at y2;have Hrow7:=Aa hrow7;clear hrow7 hyf y1 y3;go_wp2_with fail;go_loopw [93] (fun i wr=>∃j:Nat,i=.int .i64 j/\j<=x.ty.fields.length/\Hid (x.ty.sort≠69->∀f∈x.ty.fields.take j,B9 (Ai xs) f.kind)/\Hid (Below wp wp wr)) (fun i _=>x.ty.fields.length - (intOf i).toNat)
     case atStart=>exact⟨0,rfl,ah _,by intro _ f hf;simp at hf,At _ _⟩
     case round=>
      obtain⟨j,rfl,hj,hin2,hbq⟩:=hrel;have j1:(0:Int)<=(j:Int):=aH;have hzq:=hbq.o.size;have x0:=(hbq.o.cell (p:=⟨x.blk,0,none⟩) hyb).trans y0;have hxw:x.blk<wr.heap.size:=aH;have hxn:¬(x.blk=wr.heap.size):=aH;have Hbw:=@Aa (Below w w wr) ((hbr.o.trans (hbp.o.mono aH)).trans (hbq.o.mono aH));have Hbo2:=@Aa (Below wo wo wr) (hbp.o.trans (hbq.o.mono hzp));by_cases hjl:j<x.ty.fields.length
      ·have j2:(j:Int)<(x.ty.fields.length:Int):=aH;obtain⟨b8,o8,rfl,hb8,hrg⟩:=Rm.range (Hrow7.o.below hbq.o) hjl;have Hts2:=Aa (Bt x.ty.fields j hjl);have Hfm:=Aa (af hjl);have Hrg:=@Aa (wr.rangeAt b8 (o8+j*6) [.int .i64 (x.ty.fields[j].tag:Int),.string ⟨x.ty.fields[j].name.toArray⟩,.string ⟨x.ty.fields[j].kind.signs.toArray⟩,.string ⟨x.ty.fields[j].kind.base.toArray⟩,.string ⟨x.ty.fields[j].kind.name.toArray⟩,.string ⟨x.ty.fields[j].given.toArray⟩]) hrg;clear hrg;generalize x.ty.fields[j]=f at Hts2 Hfm Hrg;by_cases h69:x.ty.sort=69
       ·have t69:((x.ty.sort.toNat:Int) != 69)=false:=Ky (d:=69) h69;have Hin2:=@Aa (x.ty.sort≠69->∀f∈x.ty.fields.take (j+1),B9 (Ai xs) f.kind) (fun h=>absurd h69 h);clear h69;go_wp2_with ((with_reducible refine wpList_load_mid (op:=⟨_,.load 105 _,_,_,_,none⟩) rfl 105 _ rfl b8 (o8+j*6) ?_ _ _ Hrg.o underlying105 ?_ ?_ ?_);rfl;rfl;kernel_rfl)
        go_roundw
        case rel=>exact⟨j+1,by go_num,by omega,Hin2.o,hbq.o.alloc hzq _⟩
        case measure=>simp[intOf];omega
       have t69:((x.ty.sort.toNat:Int) != 69)=true:=N8 (d:=69) h69;have Hkd:=Aa ((Hxt.o.2.2.1.1 f Hfm.o).2.2.2.2 h69).1;have Hhas:=Aa (fun W (h:Below wo wo W)=>Qbw _ xs f.kind W (HSC.o.below h).map (ae (Kr Hkd.o) aL));unfold J2 at Hhas;by_cases hrf:B9 (Ai xs) f.kind
       ·have Hin2:=Aa (show x.ty.sort≠69->∀f∈x.ty.fields.take (j+1),B9 (Ai xs) f.kind from fun h g hg=>by
         rw[Hts2.o]at hg;rcases ag.1 hg with hg|hg
         ·exact hin2.o h g hg
         simp at hg;subst hg;exact hrf)
        rw[aD hrf]at Hhas;clear h69 hrf;go_wp2_with ((with_reducible refine wpList_load_mid (op:=⟨_,.load 105 _,_,_,_,none⟩) rfl 105 _ rfl b8 (o8+j*6) ?_ _ _ Hrg.o underlying105 ?_ ?_ ?_);rfl;rfl;kernel_rfl)
        refine(Hhas.o _ (Hbo2.o.alloc aH _)).mono ?_;rintro e w9 ⟨rfl,hb9⟩;have Hb9:=@Aa (Below wp wp w9) ((hbq.o.alloc hzq _).trans (hb9.mono aN));clear hb9;go_wp2_with fail;go_roundw
        case rel=>exact⟨j+1,by go_num,by omega,Hin2.o,Hb9.o⟩
        case measure=>simp[intOf];omega
       have Hend:=Aa (show Bz s=none by
        rw[HF2.o,if_neg];rintro⟨h,_⟩;exact hrf (h x.ty (ap (f:=(·.ty)) Hmem.o) h69 f Hfm.o))
       rw[aC hrf]at Hhas;clear h69 hrf;go_wp2_with ((with_reducible refine wpList_load_mid (op:=⟨_,.load 105 _,_,_,_,none⟩) rfl 105 _ rfl b8 (o8+j*6) ?_ _ _ Hrg.o underlying105 ?_ ?_ ?_);rfl;rfl;kernel_rfl)
       refine(Hhas.o _ (Hbo2.o.alloc aH _)).mono ?_;rintro e w9 ⟨rfl,hb9⟩;have Hb9:=@Aa (Below w w w9) ((Hbw.o.alloc Hbw.o.size _).trans (hb9.mono aN));clear hb9;go_wp2_with fail;go_ret2;exact Gq.no Hend.o rfl Hb9.o
      ·have j2:¬(j:Int)<(x.ty.fields.length:Int):=aH
       have Hin3:=Aa (show ∀y∈xs.take (k+1),y.ty.sort≠69->∀f∈y.ty.fields,B9 (Ai xs) f.kind from fun y hy=>by
        rw[Hts.o]at hy;rcases ag.1 hy with hy|hy
        ·exact hin.o y hy
        simp at hy;subst hy;intro h f hf;exact hin2.o h f dp)
       go_wp2_with fail;go_roundw
       case rel=>exact⟨k+1,by go_num,by omega,Hin3.o,Hbo2.o⟩
       case measure=>simp[intOf];omega
    ·have k2:¬(k:Int)<(xs.length:Int):=aH
     have Hkinds:=Aa (show Fy (Ai xs)from fun t ht h f hf=>by
      obtain⟨x,hx,rfl⟩:=ax.1 ht;exact hin.o x (by rw[au aH];exact hx) h f hf)
     have s9:=(hbp.o.cell (p:=⟨w.heap.size+1,0,none⟩) (show w.heap.size+1<wo.heap.size by omega)).trans S0.o;have HSP:=Aa (HSC.o.below hbp.o);have HrowP:=Aa (Hrow2.o.below hbp.o);have HbP:=@Aa (Below w w wp) (hbr.o.trans (hbp.o.mono aH));go_wp2_with fail;clear s9;go_loopw [116] (fun i wr=>∃m:Nat,i=.int .i64 m/\m<=xs.length/\Hid (∀x∈xs.take m,Bs (Ai xs) 9 x.ty=true)/\Hid (Below wp wp wr)) (fun i _=>xs.length - (intOf i).toNat)
     case atStart=>exact⟨0,rfl,ah _,by intro x hx;simp at hx,At _ _⟩
     case round=>
      obtain⟨m,rfl,hm,hin4,hbm⟩:=hrel;have m1:(0:Int)<=(m:Int):=aH;have HbM:=@Aa (Below w w wr) (HbP.o.trans (hbm.o.mono HbP.o.size));by_cases hml:m<xs.length
      ·have m2:(m:Int)<(xs.length:Int):=aH;obtain⟨bA,oA,rfl,hbA,cl⟩:=(HrowP.o.below hbm.o).at_ hml;rw[List.getElem_map]at cl;have Hts:=Aa (Bt xs m hml);have Hmem:=Aa (af hml);generalize xs[m]=x at cl Hts Hmem;have Hends:=Aa (Qfj _ xs x wr (HSP.o.below hbm.o).map (HSP.o.below hbm.o).tys Htok.o Hkinds.o Hmem.o);unfold PT.ptr at cl Hends;cases hee:Bs (Ai xs) 9 x.ty with
       |true=>
        rw[hee]at Hends
        have Hin5:=Aa (show ∀y∈xs.take (m+1),Bs (Ai xs) 9 y.ty=true from fun y hy=>by
         rw[Hts.o]at hy;rcases ag.1 hy with hy|hy
         ·exact hin4.o y hy
         simp at hy;subst hy;exact hee)
        clear hee;go_wp2_with fail;refine Hends.o.mono ?_;rintro e w9 ⟨rfl,hb9⟩;have Hb9:=Aa (hbm.o.trans (hb9.mono hbm.o.size));clear hb9;go_wp2_with fail;go_roundw
        case rel=>exact⟨m+1,by go_num,by omega,Hin5.o,Hb9.o⟩
        case measure=>simp[intOf];omega
       |false=>
        rw[hee]at Hends
        have Hend:=Aa (show Bz s=none by
         rw[HF2.o,if_neg];rintro⟨_,h⟩;have:=h x.ty (ap (f:=(·.ty)) Hmem.o);rw[hee]at this;cases this)
        clear hee;go_wp2_with fail;refine Hends.o.mono ?_;rintro e w9 ⟨rfl,hb9⟩;have Hb9:=Aa (HbM.o.trans (hb9.mono HbM.o.size));clear hb9;go_wp2_with fail;go_ret2;exact Gq.no Hend.o rfl Hb9.o
      ·have m2:¬(m:Int)<(xs.length:Int):=aH
       have Hfin:=Aa (show Bz s=some (Ai xs)by
        rw[HF2.o,if_pos];refine⟨Hkinds.o,fun t ht=>?_⟩;obtain⟨x,hx,rfl⟩:=ax.1 ht;exact hin4.o x (by rw[au aH];exact hx))
       go_wp2_with fail;go_ret2;exact Gq.yes Hfin.o rfl ((HSL.o.below hbp.o).below hbm.o) HbM.o
  ·have hu1:u.isEmpty=false:=dW;have hu2:(!u.isEmpty)=true:=dW;have hu3:(u == [])=false:=dW;have hu4:(u != [])=true:=dW
   have Hlin:=Aa (show Fc (s.length+1) s []=(if (Cy 10 u).2.2=false\/(Ai xs).length=8 then none else match Eh (Cy 10 u).1 with
    |none=>none
    |some t=>if (Ai xs).any (fun v=>decide (v.name=t.name))=true then none else Fc fuel (Cy 10 u).2.1 (Ai xs++[t]))by rw[hlin.o,Fc,if_neg hu];rfl)
   have Hcut:=Aa (fun W=>Q9 u 10 W aH);have hcl:=Kl 10 u;have hsh:(Cy 10 u).2.2=true->(Cy 10 u).2.1.length<u.length:=fun h=>by
    rcases E7 10 u with⟨_,e⟩|⟨p,t,e1,_,e⟩
    ·rw[e]at h;cases h
    rw[e];show t.length<u.length;rw[e1];simp;omega
   have Hsh:=Aa hsh;generalize Cy 10 u=q at *;obtain⟨ln,rest,told⟩:=q;simp only at hcl Hlin Hsh;have hcl1:=hcl.1;have hcl2:=hcl.2;clear hcl hu hlin hsh;go_wp2_with fail;refine(Hcut.o _).mono ?_;rintro e w1 ⟨rfl,k1,rfl⟩;unfold Qb8;cases told with
   |false=>
    have Hend:=Aa (show Bz s=none by rw[HF.o,Hlin.o];simp);go_wp2_with fail;go_ret2;exact Gq.no Hend.o rfl (below_drewN hbr.o _)
   |true=>
    have hrl:=Hsh.o aM;rcases Nat.eq_or_lt_of_le hx8 with h8|h8
    ·have q1:((xs.length:Int) == 8)=true:=by simp[h8]
     have Hend:=Aa (show Bz s=none by rw[HF.o,Hlin.o];simp[Ai,h8]);clear h8;go_wp2_with fail;go_ret2;exact Gq.no Hend.o rfl (below_drewN hbr.o _)
    have q1:((xs.length:Int) == 8)=false:=cf
    have Hlin2:=Aa (show Fc (s.length+1) s []=(match Eh ln with
     |none=>none
     |some t=>if (Ai xs).any (fun v=>decide (v.name=t.name))=true then none else Fc fuel rest (Ai xs++[t]))by rw[Hlin.o,if_neg (by simp[Ai];omega)])
    have Htype:=Aa (fun W=>Zh ln W aH);have Htok:=Aa (fun t (h:Eh ln=some t)=>(E5.1 h).1);clear Hlin;generalize Eh ln=ot at Hlin2 Htype Htok;go_wp2_with fail;refine(Htype.o _).mono ?_;rintro e w2 ⟨hcase,hb2⟩;have hbo:Below wo wo w2:=(below_drewN (At _ _) k1).trans (by simpa using hb2);have Hbo:=Aa hbo;cases ot with
    |none=>
     obtain⟨pp,rfl⟩:=hcase;have Hend:=Aa (show Bz s=none by rw[HF.o,Hlin2.o]);go_wp2_with fail;refine Be [45,46,47,48,49,50,51,52,53,54,55,56,57,58] aP aP aP (fun u=>by dsimp only[Br,Bk,List.set,an,Nat.reduceAdd])
      (fun i v W=>match i with|0=>v=.bool false|1=>v=.bool true|2=>v=.bool true|13=>v=.bool true|_=>True) (fun L U W=>∃q,W=(w2).drewN q) (fun _ _=>True) (fun _ _ _ _ _ h=>h) ⟨1,rfl⟩ ?_ ?_
     ·repeat (first|exact An.nil|(refine An.cons ?_ ?_;rotate_left))
      all_goals
       rintro L U W hL hpre ⟨q,rfl⟩ hun hdep K hK;clear hun hdep;first|(simp[Region.binds]at hpre;done)|simp[Region.binds]at hpre|clear hpre
       go_simp;first|exact hK _ _ _ rfl Ab ⟨q,rfl⟩ rfl|exact hK _ _ _ rfl Ab ⟨q,rfl⟩ aJ|exact hK undef _ _ Ab Ab ⟨q,rfl⟩ aJ|exact hK _ _ _ Ab Ab ⟨q,rfl⟩ rfl|exact hK _ _ _ Ab Ab ⟨q,rfl⟩ aJ
     rintro L U W hL hφ ⟨q,rfl⟩;have e13:U 13=.bool true:=hφ 13 aL;simp only[e13];clear hφ hL;go_wp2_with fail;go_ret2;exact jl
    |some t=>
     obtain⟨x,hxt,rfl,hxb,hxty,hxf⟩:=hcase;subst hxt;have hxb2:wo.heap.size<=x.blk:=by simpa using hxb
     have hxz:x.blk<w2.heap.size:=hxty.1;have y1:w2.cell? (x.blk,1)=x.ty.name:=hxty.2.2.2.1;have u0:=(hbo.cell (p:=⟨w.heap.size+1,0,none⟩) (show w.heap.size+1<wo.heap.size by omega)).trans s0;have u1:=(hbo.cell (p:=⟨w.heap.size+1,1,none⟩) (show w.heap.size+1<wo.heap.size by omega)).trans s1;have Hnm2:=Aa (Dm.below hnm.o hbo);have Hxty:=Aa hxty;have Hxf:=Aa hxf;have Htk:=Aa (Htok.o x.ty rfl);have hnl:x.ty.name.length<=3:=(Dp.1 Htk.o.2.1).2.1;have hlook:∀q,(Instr.lookup 156 (.map (some w.heap.size)) x.ty.name false).run prog (w2.drewN q)=.ok (Pb (Ex xs x.ty.name)) (w2.drewN q):=fun q=>Je (Dm.below Hnm2.o (below_drewN (At _ _) q)) x.ty.name aH;have hz2:wo.heap.size<=w2.heap.size:=hbo.size;clear hbo s0 s1 hxty hxf;unfold PT.ptr;cases hfp:Ex xs x.ty.name with
     |some z=>
      have Hend:=Aa (show Bz s=none by
       rw[HF.o,Hlin2.o];have:(Ai xs).any (fun v=>decide (v.name=x.ty.name))=true:=by
        cases hh:(Ai xs).any (fun v=>decide (v.name=x.ty.name))with
        |true=>rfl
        |false=>rw[Vc.2 hh]at hfp;cases hfp
       simp[this])
      rw[hfp]at hlook;unfold Pb PT.ptr at hlook;clear hfp;go_wp2_with fail;refine Be [45,46,47,48,49,50,51,52,53,54,55,56,57,58] aP aP aP (fun u=>by dsimp only[Br,Bk,List.set,an,Nat.reduceAdd])
       (fun i v W=>match i with|0=>v=.bool true|1=>v=.bool false|2=>v=.bool false|3=>v=(w,1,0)|4=>v=(w,1,0)|5=>v=(w,1,1)|6=>v=.map (some w.heap.size)|7=>v=x.blk|8=>v=x.blk|9=>v=(x.blk,1)|10=>v=x.ty.name|11=>v=z.blk|12=>v=.bool true|13=>v=.bool true|_=>True) (fun L U W=>∃q,W=(w2).drewN q) (fun _ _=>True) (fun _ _ _ _ _ h=>h) ⟨1,rfl⟩ ?_ ?_
      ·exact gD
      rintro L U W hL hφ ⟨q,rfl⟩;have e13:U 13=.bool true:=hφ 13 aL;simp only[e13];clear hφ hL;go_wp2_with fail;go_ret2;exact jl
     |none=>
      have Hany:=Aa (Vc.1 hfp);have Hfp:=Aa hfp;rw[hfp]at hlook;unfold Pb at hlook;clear hfp
      have Hlin3:=Aa (show Fc (s.length+1) s []=Fc fuel rest (Ai (xs++[x]))by
       rw[Hlin2.o];show (if _ then _ else _)=_;rw[if_neg (by rw[Hany.o];decide)];simp[Ai])
      go_wp2_with fail;refine Be [45,46,47,48,49,50,51,52,53,54,55,56,57,58] aP aP aP (fun u=>by dsimp only[Br,Bk,List.set,an,Nat.reduceAdd])
       (fun i v W=>match i with|0=>v=.bool true|1=>v=.bool false|2=>v=.bool false|3=>v=(w,1,0)|4=>v=(w,1,0)|5=>v=(w,1,1)|6=>v=.map (some w.heap.size)|7=>v=x.blk|8=>v=x.blk|9=>v=(x.blk,1)|10=>v=x.ty.name|11=>v=.pointer none|12=>v=.bool false|13=>v=.bool false|_=>True) (fun L U W=>∃q,W=(w2).drewN q) (fun _ _=>True) (fun _ _ _ _ _ h=>h) ⟨1,rfl⟩ ?_ ?_
      ·exact gD
      rintro L U W hL hφ ⟨q,rfl⟩;have e13:U 13=.bool false:=hφ 13 aL;simp only[e13];clear hφ hL;obtain⟨w3,hw3⟩:∃w3,w3=w2.drewN q:=⟨_,rfl⟩
      rw[<-hw3];have hb3:Below wo wo w3:=by rw[hw3];exact below_drewN Hbo.o _
      have hb23:Below w2 w2 w3:=by rw[hw3];exact below_drewN (At _ _) _
      have Hx3:=Aa (Hxty.o.below hb23);have hown3:=Bl hown.o hb3;have hT3:=Ax hT.o (show w.heap.size+1<wo.heap.size by omega) hb3;have hK3:=Au hK.o (show w.heap.size+1<wo.heap.size by omega) hb3;have hz3:wo.heap.size<=w3.heap.size:=hb3.size;have v0:w3.cell? (w,1,0)=some (.slice A xs.length cA):=by simpa using Ac hT3 0 rfl
      have Hb3:=Aa hb3;have Hown3:=Aa hown3;have HT3:=Aa hT3;have HK3:=Aa hK3;have Hnm3:=Aa (Dm.below Hnm2.o hb23);have Hb23:=Aa hb23;clear hlook hb3 hown3 hT3 hK3 hw3 hb23 u0 u1 y1;go_wp2_with (at_builtin;refine Ga _ rfl _ _ 155 rfl (w.heap.size+2) 100 (.pointer none) 8 underlying155 Tryz.infoPt rfl w3 x.blk rfl rfl (.slice A xs.length cA) xs.length (xs.map (·.ptr)) rfl rfl Hown3.o bh aH aH ?_;intro v5 w5 hown5 hg5 hwh;have hb5:Below (w.heap.size+2) w3 w5:=(At _ _).grown hg5 aH (fun k hk=>(Hown3.o.lt k hk).1);have HT5:=Aa (Ax HT3.o (show w.heap.size+1<w.heap.size+2 by omega) hb5);have HK5:=Aa (Au HK3.o (show w.heap.size+1<w.heap.size+2 by omega) hb5);have Hnm5:=Aa (Dm.belowAt Hnm3.o (show w.heap.size<w.heap.size+2 by omega) hb5);have Hty5:=Aa (Va.push hty.o Hb3.o hown.o Hx3.o hxb2 (fun k hk=>(by have:=Hxf.o k hk;simpa using this)) aH hg5 hwh);obtain⟨A5,n5,c5,e5⟩:=Ys hown5;subst e5;have Hown5:=Aa hown5;have Hb5:=Aa hb5;have p0:w5.cell? (w,1,0)=some (.slice A xs.length cA):=(by simpa using Ac HT5.o 0 rfl);have f0:w5.frozen? (w,1,0)=false:=(by simpa using(HK5.o 0 aL).2);have hz5:w3.heap.size<=w5.heap.size:=hg5.size;clear hown5 hg5 hwh hb5 v0)
      obtain⟨w6,hw6⟩:∃w6,w6=w5.setCell ⟨w.heap.size+1,0,none⟩ (.slice A5 n5 c5):=⟨_,rfl⟩
      rw[<-hw6];have hg6:w5.grownBy w6 (some (w.heap.size+1)):=by rw[hw6];exact Pq _ _ _
      have hT6:w6.rangeAt (w.heap.size+1) 0 [.slice A5 n5 c5,.map (some w.heap.size)]:=by rw[hw6];exact Cx [] [.slice A xs.length cA] [.map (some w.heap.size)] [.slice A5 n5 c5] HT5.o rfl
      have hK6:w6.there (w.heap.size+1) 0 2:=by rw[hw6];exact aj HK5.o (w.heap.size+1) 0 [.slice A5 n5 c5]
      have Hown6:=Aa (Hown5.o.kept hg6 (.inr (fun e=>by have:=(Hown5.o.lt _ e).1;omega)));have Hnm6:=Aa (Dm.kept Hnm5.o hg6 aM);have Hty6:=Aa (Hty5.o.far hg6 aH);have Hb6:=@Aa (Below w w w6) (((hbr.o.trans (Hb3.o.mono aH)).trans (Hb5.o.mono aH)).trans (by rw[hw6];exact(At _ _).setCell aM _));have hz6:w.heap.size+2<=w6.heap.size:=ae aH hg6.size;have m1:w6.cell? (w,1,1)=some (.map (some w.heap.size)):=by simpa using Ac hT6 1 rfl
      have n1:w6.cell? (x.blk,1)=x.ty.name:=(Hty6.o.1 x aM).1.2.2.2.1;have HT6:=Aa hT6;have HK6:=Aa hK6;clear hw6 hg6 hT6 hK6 p0 f0;refine Be [69,70,71,72,73,74,75,76,77,999] aP aP aP (fun u=>by dsimp only[Br,Bk,List.set,an,Nat.reduceAdd])
       (fun i v W=>match i with|0=>v=(w,1,0)|1=>v=(w,1,0)|2=>v=(w,1,1)|3=>v=.map (some w.heap.size)|4=>v=x.blk|5=>v=x.blk|6=>v=(x.blk,1)|7=>v=x.ty.name|8=>v=x.blk|_=>True) (fun L U W=>∃q,(L 9=false->W=w6.drewN q)/\(L 9=true->(w6.drewN q).grownBy W (some w.heap.size)/\Nu W w.heap.size (xs++[x]))) (fun _ _=>True) (fun _ _ _ _ _ h=>h) ⟨1,fun _=>rfl,by simp⟩ ?_ ?_
      ·repeat (first|exact An.nil|(refine An.cons ?_ ?_;rotate_left))
       all_goals
        rintro L U W hL hpre ⟨q,hq1,hq2⟩ hun hdep K hK;have Hdep:=Aa hdep;have Hq2:=Aa hq2;clear hun hdep hq2;first|(simp[Region.binds]at hpre;done)|simp[Region.binds]at hpre|clear hpre
       ·obtain rfl:=hq1 (Bi Hdep.o 9 3 rfl (Bi Hdep.o 3 2 rfl (Bi Hdep.o 2 1 rfl (Bi Hdep.o 1 0 rfl hL))));exact jn
       ·obtain rfl:=hq1 (Bi Hdep.o 9 3 rfl (Bi Hdep.o 3 2 rfl (Bi Hdep.o 2 1 rfl hL)));exact jn
       ·obtain rfl:=hq1 (Bi Hdep.o 9 3 rfl (Bi Hdep.o 3 2 rfl hL));exact jn
       ·obtain rfl:=hq1 (Bi Hdep.o 9 3 rfl hL);exact jn
       ·obtain rfl:=hq1 (Bi Hdep.o 9 7 rfl (Bi Hdep.o 7 6 rfl (Bi Hdep.o 6 5 rfl (Bi Hdep.o 5 4 rfl hL))));exact jn
       ·obtain rfl:=hq1 (Bi Hdep.o 9 7 rfl (Bi Hdep.o 7 6 rfl (Bi Hdep.o 6 5 rfl hL)));exact jn
       ·obtain rfl:=hq1 (Bi Hdep.o 9 7 rfl (Bi Hdep.o 7 6 rfl hL));exact jn
       ·obtain rfl:=hq1 (Bi Hdep.o 9 7 rfl hL);exact jn
       ·obtain rfl:=hq1 (Bi Hdep.o 9 8 rfl hL);exact jn
       ·obtain rfl:=hq1 hL;obtain⟨w7,hrun,r1,r2⟩:=Dm.store (Dm.below Hnm6.o (below_drewN (At _ _) q)) Tryz.keyStr underlying156 bh x.blk (Qdn (n:=x.ty.name) aH);have hn7:Nu w7 w.heap.size (xs++[x]):=by
         unfold Nu;rw[ai];exact r1.of_eq (fun l hl=>Qau Hfp.o l hl)
        have R2:=Aa r2;have Hn7:=Aa hn7;clear r1 r2 hn7;go_simp;exact hK undef _ _ Ab Ab ⟨q,fun h=>by simp at h,fun _=>⟨R2.o,Hn7.o⟩⟩ aJ
      rintro L U W hL hφ ⟨q,_,hq2⟩;obtain⟨hg7,hn7⟩:=hq2 (hL 9 aL);have hzq:w6.heap.size<=W.heap.size:=by have:=hg7.size;simpa using this
      have hb7:Below w w W:=(below_drewN Hb6.o q).grown hg7 aN (fun k hk=>by injection hk with hk;omega);have HT7:=Aa (Gh (Ax HT6.o (show w.heap.size+1<w6.heap.size by omega) (below_drewN (At _ _) q)) hg7 aM);have HK7:=Aa (Gv (Au HK6.o (show w.heap.size+1<w6.heap.size by omega) (below_drewN (At _ _) q)) hg7 aN aM);have Hown7:=Aa ((Bl Hown6.o (below_drewN (At _ _) q)).kept hg7 (.inr (fun e=>by have:=(Hown6.o.lt _ e).1;omega)));have Hty7:=Aa ((Hty6.o.below (below_drewN (At _ _) q)).far hg7 aH);have Hn7:=Aa hn7;have Hb7:=Aa hb7;clear hL hφ hq2 hg7 hn7 hb7 m1 n1;go_wp2_with fail;go_roundw
      case rel=>exact⟨rest,fuel,xs++[x],.slice A5 n5 c5,rfl,by omega,by omega,Hlin3.o,by simp;omega,HT7.o,HK7.o,by rw[ai,az];exact Hown7.o,Hn7.o,Hty7.o,Hb7.o,by omega⟩
      case measure=>rw[J6,J6];omega
theorem Xd(s:List UInt8)(w:World)(hs:s.length<=4000000):
  Calls prog 95 #[s] w (Gq (Bz s) w):=by
 by_cases h:400<s.length
 ·exact Zj s w hs h
 exact Qb9 s w aH
theorem Ed(b:Nat):∀(vs:List Value) (o:Nat) (w:World),w.grownBy (w.setCells b o vs) (some b)
 |[],_,w=>World.grownBy.refl _ _
 |v::r,o,w=>(Pq w ⟨b,o,none⟩ v).trans (Ed b r (o+1) _)
def Qo(o:Option (List Ty × Kd))(w:World)(e:Ending)(w':World):Prop:=
 (match o with
  |some x=>∃p xs,Ai xs=x.1/\e=.returned (.tuple #[p,J2 x.2,.bool true])/\T6 w.heap.size w' p xs
  |none=>∃(p:Option Addr) (a b c:ByteArray),e=.returned (.tuple #[.pointer p,.agg #[.string a,.string b,.string c],.bool false]))/\Below w w w'
theorem Qo.no{w w':World}{e:Ending}{o:Option (List Ty × Kd)}(ho:o=none){p:Option Addr}{a b c:ByteArray}(he:e=.returned (.tuple #[.pointer p,.agg #[.string a,.string b,.string c],.bool false]))(hb:Below w w w'):Qo o w e w':=by
 rw[ho];exact⟨⟨p,a,b,c,he⟩,hb⟩
theorem Qfs(s d:List UInt8)(w:World)(hs:s.length<=4000000)(hd:d.length<=4000000):
  Calls prog 51 #[s,d] w (Qo (C0 s d) w):=by
 have Hrs:=Aa (fun W=>Xd s W hs);have Hrk:=Aa (fun W=>Q5 d W hd);have HF:=@Aa (C0 s d=(match Bz s with|none=>none|some S=>match Ck d with|none=>none|some k=>if B9 S k then some (S,k)else none)) rfl;have Hkok:=Aa (fun k (h:Ck d=some k)=>(En.1 h).1);generalize Bz s=oS at HF Hrs;generalize Ck d=oK at HF Hrk Hkok;go_enter func51,ntmps51;go_wp2_with fail;refine(Hrs.o _).mono ?_;rintro e w1 ⟨hcase,hb1⟩;have hz1:w.heap.size<w1.heap.size:=fj;have HT1:=@Aa (w1.there w 0 3) (Au (Ct w [aa,aa,aa] 62) aM hb1);have Hb1:=@Aa (Below w w w1) (((At _ _).alloc (Ao _) _).trans (hb1.mono aM));clear hb1;cases oS with
 |none=>
  obtain⟨p,rfl⟩:=hcase;go_wp2_with ((with_reducible refine Ae (op:=⟨none,.store 62 _ _,_,_,_,none⟩) rfl 62 _ _ rfl w 0 [aa,aa,aa] ?_ ?_ ?_ ?_ ?_ ?_);rfl;rfl;(exact HT1.o);kernel_rfl;(simp[Value.oneCell']);intro w9 HS9)
  have HZ:=@Aa (w9.rangeAt w 0 [aa,aa,aa]) (by rw[HS9.o];exact ac _ _ _ _ HT1.o);refine aF (v:=.tuple #[.pointer none,.agg ([aa,aa,aa]:List Value).toArray,.bool false]) ?_ rfl ?_
  ·exact Fm results51 _ _ w.heap.size [aa,aa,aa] _ _ _ rfl rfl rfl HZ.o underlying62 rfl aP
  exact Qo.no HF.o rfl (by rw[HS9.o];exact Aj _ (Ao _) _ _ _ Hb1.o)
 |some S=>
  obtain⟨p,xs,hxs,rfl,hsl⟩:=hcase;subst hxs;have Hsl:=@Aa (T6 (w.heap.size+1) w1 p xs) (by simpa using hsl);obtain⟨pb,_,_,_,hp,_⟩:=hsl;subst hp;go_wp2_with fail;refine(Hrk.o _).mono ?_;rintro e w2 ⟨hcase,hb2⟩;cases oK with
  |none=>
   obtain⟨a1,a2,a3,rfl⟩:=hcase;have hz4:w2.heap.size<(w2.alloc (.cells #[.string a1,.string a2,.string a3] 62)).heap.size:=aM;have hz2:w.heap.size<w2.heap.size:=by have:=hb2.size;omega
   have HT4:=@Aa ((w2.alloc (.cells #[.string a1,.string a2,.string a3] 62)).there w 0 3) (ar (Au HT1.o hz1 hb2) _);have HX4:=@Aa ((w2.alloc (.cells #[.string a1,.string a2,.string a3] 62)).rangeAt w2 0 [.string a1,.string a2,.string a3]) (Cj w2 [.string a1,.string a2,.string a3] _);have Hsl4:=@Aa (T6 (w.heap.size+1) (w2.alloc (.cells #[.string a1,.string a2,.string a3] 62)) pb xs) ((Hsl.o.below hb2).below ((At _ _).alloc (Ao _) _));have Hb4:=@Aa (Below w w (w2.alloc (.cells #[.string a1,.string a2,.string a3] 62))) ((Hb1.o.trans (hb2.mono Hb1.o.size)).alloc aH _);clear hb2;go_wp2_with fail;refine Be [23,24,25,26,27,28,29,30,4,999,6] aP aP aP (fun u=>by dsimp only[Br,Bk,List.set,an,Nat.reduceAdd])
    (fun i v W=>match i with|0=>v=pb|1=>v=.agg ([.string a1,.string a2,.string a3]:List Value).toArray|2=>v=.bool false|3=>v=.bool false|7=>v=.bool false|8=>v=pb|10=>v=.bool false|_=>True) (fun L U W=>Below w w W/\w2.heap.size<W.heap.size/\W.there w 0 3/\W.rangeAt w2 0 [.string a1,.string a2,.string a3]/\T6 (w.heap.size+1) W pb xs/\(L 9=true->W.rangeAt w 0 [.string a1,.string a2,.string a3])) (fun _ _=>True) (fun _ _ _ _ _ h=>h) ⟨Hb4.o.drew,by simp,by simpa using HT4.o,by simpa using HX4.o,Hsl4.o.below ((At _ _).drew),by simp⟩ ?_ ?_
   ·repeat (first|exact An.nil|(refine An.cons ?_ ?_;rotate_left))
    all_goals
     rintro L U W hL hpre hR hun hdep K hK;have HR:=Aa hR;obtain⟨_,_,_,hxr,_,_⟩:=hR;have c0:W.cell? (w2,0)=some (.string a1):=by simpa using Ac hxr 0 rfl
     have c1:W.cell? (w2,1)=some (.string a2):=by simpa using Ac hxr 1 rfl
     have c2:W.cell? (w2,2)=some (.string a3):=by simpa using Ac hxr 2 rfl
     clear hun hdep hxr;first|(simp[Region.binds]at hpre;done)|simp[Region.binds]at hpre|clear hpre
    iterate 9 exact fT
    ·obtain⟨r1,r2,r3,r4,r5,r6⟩:=HR.o;rw[if_pos di];refine wp_store_mid 62 _ _ rfl w 0 ([.string a1,.string a2,.string a3]:List Value).toArray rfl hpre.1.2 r3 aP bL ?_;exact jo
    ·exact fT
   rintro L U W hL hφ ⟨r1,r2,r3,r4,r5,r6⟩;have e8:U 8=pb:=hφ 8 aL;have e10:U 10=.bool false:=hφ 10 aL;have hr0:=r6 (hL 9 aL);simp only[e8,e10];have R1:=Aa r1;have R5:=Aa r5;have R0:=Aa hr0;clear hL hφ r1 r2 r3 r4 r5 r6 hr0;go_wp2_with fail;refine aF (v:=.tuple #[pb,.agg ([.string a1,.string a2,.string a3]:List Value).toArray,.bool false]) ?_ rfl ?_
   ·exact Fm results51 _ _ w.heap.size [.string a1,.string a2,.string a3] _ _ _ rfl rfl rfl R0.o underlying62 rfl aP
   exact Qo.no HF.o rfl R1.o
  |some k=>
   have hcase':e=.returned (.tuple #[.agg #[k.signs,k.base,k.name],.bool true]):=hcase;subst hcase';clear hcase;have hkn:k.name.length<=100:=ae (Kr (Hkok.o k rfl)) aL;have hz4:w2.heap.size<(w2.alloc (.cells #[k.signs,k.base,k.name] 62)).heap.size:=aM;have hz2:w.heap.size<w2.heap.size:=by have:=hb2.size;omega
   have HT4:=@Aa ((w2.alloc (.cells #[k.signs,k.base,k.name] 62)).there w 0 3) (ar (Au HT1.o hz1 hb2) _);have HX4:=@Aa ((w2.alloc (.cells #[k.signs,k.base,k.name] 62)).rangeAt w2 0 [k.signs,k.base,k.name]) (Cj w2 [k.signs,k.base,k.name] _);have Hsl4:=@Aa (T6 (w.heap.size+1) (w2.alloc (.cells #[k.signs,k.base,k.name] 62)) pb xs) ((Hsl.o.below hb2).below ((At _ _).alloc (Ao _) _));have Hb4:=@Aa (Below w w (w2.alloc (.cells #[k.signs,k.base,k.name] 62))) ((Hb1.o.trans (hb2.mono Hb1.o.size)).alloc aH _);clear hb2;go_wp2_with fail;have HF3:=@Aa (C0 s d=if B9 (Ai xs) k then some (Ai xs,k)else none) HF.o;refine Be [23,24,25,26,27,28,29,30,4,999,6] aP aP aP (fun u=>by dsimp only[Br,Bk,List.set,an,Nat.reduceAdd])
    (fun i v W=>match i with|0=>v=pb|1=>v=.agg ([k.signs,k.base,k.name]:List Value).toArray|2=>v=.bool true|3=>v=.bool true|4=>v=pb|5=>v=.agg ([k.signs,k.base,k.name]:List Value).toArray|6=>v=.bool (decide (B9 (Ai xs) k))|7=>v=.bool (decide (B9 (Ai xs) k))|8=>v=pb|10=>v=.bool (decide (B9 (Ai xs) k))|_=>True) (fun L U W=>Below w w W/\w2.heap.size<W.heap.size/\W.there w 0 3/\W.rangeAt w2 0 [k.signs,k.base,k.name]/\T6 (w.heap.size+1) W pb xs/\(L 9=true->W.rangeAt w 0 [k.signs,k.base,k.name])) (fun _ _=>True) (fun _ _ _ _ _ h=>h) ⟨Hb4.o.drew,by simp,by simpa using HT4.o,by simpa using HX4.o,Hsl4.o.below ((At _ _).drew),by simp⟩ ?_ ?_
   ·repeat (first|exact An.nil|(refine An.cons ?_ ?_;rotate_left))
    all_goals
     rintro L U W hL hpre hR hun hdep K hK;have HR:=Aa hR;obtain⟨_,_,_,hxr,_,_⟩:=hR;have c0:W.cell? (w2,0)=k.signs:=by simpa using Ac hxr 0 rfl
     have c1:W.cell? (w2,1)=k.base:=by simpa using Ac hxr 1 rfl
     have c2:W.cell? (w2,2)=k.name:=by simpa using Ac hxr 2 rfl
     clear hun hdep hxr;first|(simp[Region.binds]at hpre;done)|simp[Region.binds]at hpre|clear hpre
    iterate 6 exact fT
    ·go_simp;obtain⟨r1,r2,r3,r4,r5,r6⟩:=HR.o;refine(Qbw _ xs k W r5.isc.map hkn).mono ?_;rintro e w5 ⟨rfl,hb5⟩;exact hK (.bool (decide (B9 (Ai xs) k))) _ _ rfl Ab ⟨r1.trans (hb5.mono r1.size),ad r2 hb5.size,Au r3 (show w.heap.size<W.heap.size by omega) hb5,Ax r4 r2 hb5,r5.below hb5,fun h=>Ax (r6 h) (show w.heap.size<W.heap.size by omega) hb5⟩ aJ
    ·exact fT
    ·exact fT
    ·obtain⟨r1,r2,r3,r4,r5,r6⟩:=HR.o;rw[if_pos di];refine wp_store_mid 62 _ _ rfl w 0 ([k.signs,k.base,k.name]:List Value).toArray rfl hpre.1.2 r3 aP bL ?_;exact jo
    ·exact fT
   rintro L U W hL hφ ⟨r1,r2,r3,r4,r5,r6⟩;have e8:U 8=pb:=hφ 8 aL;have e10:U 10=.bool (decide (B9 (Ai xs) k)):=hφ 10 aL;have hr0:=r6 (hL 9 aL);simp only[e8,e10];have R1:=Aa r1;have R5:=Aa r5;have R0:=Aa hr0;clear hL hφ r1 r2 r3 r4 r5 r6 hr0;go_wp2_with fail;refine aF (v:=.tuple #[pb,.agg ([k.signs,k.base,k.name]:List Value).toArray,.bool (decide (B9 (Ai xs) k))]) ?_ rfl ?_
   ·exact Fm results51 _ _ w.heap.size [k.signs,k.base,k.name] _ _ _ rfl rfl rfl R0.o underlying62 rfl aP
   by_cases hr:B9 (Ai xs) k
   ·rw[aD hr];unfold Qo;rw[HF3.o,if_pos hr]
    exact⟨⟨_,xs,rfl,rfl,by
     obtain⟨b,A,c,mb,q0,q1,q2,q3,q4,q5,q6,q7,l1,l2,l3,l4⟩:=R5.o;exact⟨b,A,c,mb,q0,q1,q2,q3,q4,q5,q6,q7,by omega,by omega,fun g o h1 h2=>by have:=l3 g o h1 h2;omega,fun x hx=>⟨by have:=(l4 x hx).1;omega,fun k h1 h2=>by have:=(l4 x hx).2 k h1 h2;omega⟩⟩⟩,R1.o⟩
   rw[aC hr];exact Qo.no (HF3.o.trans (if_neg hr)) rfl R1.o
end
end Go.Proofs.YtpjijpcemejlnaaGreatDoor
