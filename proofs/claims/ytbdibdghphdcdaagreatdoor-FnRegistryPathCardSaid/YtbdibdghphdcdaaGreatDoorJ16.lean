/- Texts joined. Conditions: as each theorem names them. -/
import Derived.Test.YtbdibdghphdcdaaGreatDoorJ05
set_option maxRecDepth 100000
set_option maxHeartbeats 32000000
set_option linter.unusedVariables false
set_option linter.unusedSimpArgs false
namespace Go.Proofs.YtbdibdghphdcdaaGreatDoor
open Go.RowKit Go.Proofs.Tryz
section
attribute [local go_sem] Qo7 Qok Qoa Ql9 ByteArray.mk_append_mk
theorem Qfx(c:UInt8)(r nm rest:List UInt8)(w:World)(hs:r.length<=3999999)(hc:Eo c)(h:Dp 61 r=(nm,rest,true))(hn:Bh nm=true)(hr:rest≠[]):
  Calls prog 94 #[.string ⟨(c::r).toArray⟩] w (Fy (Fi (c::r)) w):=by
 have HF:=Aa (Qdg hc h hn hr)
 have Hc:=Aa (fun W=>(show Calls prog 116 #[.string ⟨#[82,85,69]⟩,.string ⟨#[c]⟩] W fun e w'=>e=.returned (.bool true)/\W=w' from by
  have:=P4 [82,85,69] c W;rw[Qav,aD hc]at this;exact this))
 have Hcut:=Aa (fun W=>Tw r 61 W aH);have hcl:=M7 61 r;have Hcut2:=Aa h;rw[h]at Hcut hcl;simp only at hcl;have hcl1:=hcl.1;have hcl2:=hcl.2;have Hname:=Aa (fun W=>Nf nm W aH);rw[hn]at Hname;have Hsp:=Aa (fun W=>Xb rest 44 W aH);have hne:=E8 44 rest;have Hpl:=Aa (As 44 rest);have Hln:=Aa (Jz 44 rest);generalize Al 44 rest=ps at HF Hsp hne Hpl Hln;have Hcs:=Aa hc;have hpsl:ps.length<=4000000:=by have:=Hln.o;omega
 have hr1:rest.isEmpty=false:=dJ;have hr2:(rest == [])=false:=dJ;clear h hn hr hc hcl;go_enter func94,ntmps94;go_wp2_with fail;refine(Hc.o _).mono ?_;rintro e w' ⟨rfl,rfl⟩;go_wp2_with fail;refine(Hcut.o _).mono ?_;rintro e w1 ⟨rfl,k1,rfl⟩;unfold Qfs;go_wp2_with fail;refine(Hname.o _).mono ?_;rintro e w2 ⟨rfl,hb2⟩;have Hb2:=@Aa (Below w w w2) ((below_drewN (Ap _ _) k1).trans (by simpa using hb2));have hz2:=Hb2.o.size;clear hb2;go_wp2_with fail;refine(Hsp.o _).mono ?_;rintro e w3 ⟨v,rfl,ho,hb3⟩;obtain⟨g,cg,rfl,hg1,hg2,hcells⟩:=Pw ho hne;have hg1':w2.heap.size+1<=g:=by simpa using hg1
 have hz3:w2.heap.size<w3.heap.size:=aH;have HT0:=@Aa (w3.rangeAt w2 0 [.int .u8 (c.toNat:Int),nm,.slice none 0 0,.string ⟨(c::r).toArray⟩]) (Ah (Bk w2 _ _) aK hb3);have HK0:=@Aa (w3.there w2 0 4) (Aj (Bu w2 [.int .u8 (c.toNat:Int),nm,.slice none 0 0,.string ⟨(c::r).toArray⟩] _) aK hb3);have HB0:=@Aa (Rj w3 w2.heap.size) ((Rj.new w2 _ _).belowAt aK hb3);have Hb3:=@Aa (Below w w w3) ((Hb2.o.alloc Hb2.o.size _).trans (hb3.mono aM));have Hcells:=@Aa (∀j (hj:j<ps.length),w3.cell? ⟨g,j,none⟩=some (.string ⟨ps[j].toArray⟩)) hcells;have Hown0:=Aa (World.ownsRow_nil w3 w3 122 6);clear ho hb3 hcells hg1 hne;go_wp2_with fail
 go_loopw [53] (fun i wr=>∃(k:Nat) (acc:List Fd) (fv:Value),i=.int .i64 k/\k<=ps.length/\acc.length<=8/\Hid (Fi (c::r)=Qni c nm (Gh c (ps.drop k) acc)) /\
   Hid (wr.ownsRow w3 122 6 fv acc.length (acc.flatMap Vp))/\Hid (Below w w wr)/\w3.heap.size<=wr.heap.size /\
   Hid (∀j (hj:j<ps.length),wr.cell? ⟨g,j,none⟩=some (.string ⟨ps[j].toArray⟩)) /\
   Hid (wr.rangeAt w2 0 [.int .u8 (c.toNat:Int),nm,fv,.string ⟨(c::r).toArray⟩])/\Hid (wr.there w2 0 4)/\Hid (Rj wr w2.heap.size)) (fun i _=>ps.length - (intOf i).toNat)
 case atStart=>exact⟨0,[],.slice none 0 0,rfl,ag _,by simp,HF.o,Hown0.o,Hb3.o,An _,Hcells.o,HT0.o,HK0.o,HB0.o⟩
 case round=>
  obtain⟨wo,rfl⟩:∃wo:World,wo=wr:=⟨_,rfl⟩
  obtain⟨k,acc,fv,rfl,hk,ha8,hft,hown,hbr,hzr,hpr,hT,hK,hB⟩:=hrel;have i1:(0:Int)<=(k:Int):=aH;obtain⟨A,cA,rfl,hrow⟩:=Cd.ownK hown.o aU;have Hrow:=Aa hrow;have t0:wo.cell? (w2,0)=some (.int .u8 (c.toNat:Int)):=by simpa using Ab hT.o 0 rfl
  have t2:wo.cell? (w2,2)=some (.slice A acc.length cA):=by simpa using Ab hT.o 2 rfl
  clear hrow;by_cases hlt:k<ps.length
  ·have i2:(k:Int)<(ps.length:Int):=aH;have cell:=hpr.o k hlt;have hft2:=Aa ((Qce (c:=c) (acc:=acc) hlt) ▸ hft.o);have hplk:=Hpl.o _ (ae hlt);generalize ps[k]=p at cell hft2 hplk;have Hread:=Aa (fun W=>Qa8 c Hcs.o p W aH);generalize Jw c p=o at hft2 Hread;go_wp2_with fail;refine(Hread.o _).mono ?_;rintro e w4 ⟨hcase,hb4⟩;have Hb4:=Aa (hbr.o.trans (hb4.mono hbr.o.size));cases o with
   |none=>
    obtain⟨n,a1,a2,a3,a4,a5,rfl⟩:=hcase;have Hend:=@Aa (Fi (c::r)=none) hft2.o;go_wp2_with fail;go_ret2;exact Fy.no Hend.o rfl (Hb4.o.alloc Hb4.o.size _)
   |some f=>
    have hcase':e=.returned (.tuple #[.agg #[(f.tag:Int),f.name,f.kind.signs,f.kind.base,f.kind.name,f.given],.bool true]):=hcase;subst hcase';clear hcase;have s0:=(hb4.cell (p:=⟨w2.heap.size,0,none⟩) (show w2.heap.size<wo.heap.size by omega)).trans t0;have s2:=(hb4.cell (p:=⟨w2.heap.size,2,none⟩) (show w2.heap.size<wo.heap.size by omega)).trans t2;have hz4:wo.heap.size<=w4.heap.size:=hb4.size;have hn4:¬(w2.heap.size=w4.heap.size):=aH;have hn5:w2.heap.size<w4.heap.size:=aH;have Hb4r:=Aa hb4;clear t0 t2 hb4;have hft3:=@Aa (Fi (c::r)=Qni c nm (if acc.length=8\/H6 acc f=false then none else Gh c (ps.drop (k+1)) (acc++[f]))) hft2.o;clear hft2;rcases Nat.eq_or_lt_of_le ha8 with h8|h8
    ·have q1:((acc.length:Int) == 8)=true:=by simp[h8]
     have Hend:=Aa (hft3.o.trans (by rw[if_pos (.inl h8)]));clear h8;go_wp2_with fail;go_ret2;exact Fy.no Hend.o rfl (Hb4.o.alloc Hb4.o.size _)
    have q1:((acc.length:Int) == 8)=false:=cw;go_wp2_with fail;have f0:(w4.alloc (.cells #[(f.tag:Int),f.name,f.kind.signs,f.kind.base,f.kind.name,f.given] 122)).cell? (w4,0)=(f.tag:Int):=aK;have f1:(w4.alloc (.cells #[(f.tag:Int),f.name,f.kind.signs,f.kind.base,f.kind.name,f.given] 122)).cell? (w4,1)=f.name:=aK;have HR0:=Aa (Bk w4 [(f.tag:Int),f.name,f.kind.signs,f.kind.base,f.kind.name,f.given] 122);go_loopw [81] (fun jj wq=>∃j:Nat,jj=.int .i64 j/\j<=acc.length/\Hid (∀x∈acc.take j,x.name≠f.name/\x.tag<f.tag)/\Hid (Below w4 w4 wq)/\w4.heap.size<wq.heap.size/\Hid (wq.rangeAt w4 0 [(f.tag:Int),f.name,f.kind.signs,f.kind.base,f.kind.name,f.given])) (fun jj _=>acc.length - (intOf jj).toNat)
    case atStart=>exact⟨0,rfl,ag _,by intro x hx;simp at hx,(Ap _ _).alloc (An _) _,by simp,HR0.o⟩
    case round=>
     clear f0 f1;obtain⟨j,rfl,hj,hin,hbq,hzq,hfr⟩:=hrel;have j1:(0:Int)<=(j:Int):=aH;have f0:wr.cell? (w4,0)=(f.tag:Int):=by simpa using Ab hfr.o 0 rfl
     have f1:wr.cell? (w4,1)=f.name:=by simpa using Ab hfr.o 1 rfl
     have hnq:¬(w4.heap.size=wr.heap.size):=aH;have Hbq:=Aa (Hb4.o.trans (hbq.o.mono Hb4.o.size));by_cases hjl:j<acc.length
     ·have j2:(j:Int)<(acc.length:Int):=aH;obtain⟨bA,oA,rfl,hbA,hrg⟩:=Sp.range ((Hrow.o.below Hb4r.o).below hbq.o) hjl;have Hts:=Aa (Cn acc j hjl);have Hmem:=Aa (ae hjl);have Hrg:=@Aa (wr.rangeAt bA (oA+j*6) [.int .i64 (acc[j].tag:Int),.string ⟨acc[j].name.toArray⟩,.string ⟨acc[j].kind.signs.toArray⟩,.string ⟨acc[j].kind.base.toArray⟩,.string ⟨acc[j].kind.name.toArray⟩,.string ⟨acc[j].given.toArray⟩]) hrg;clear hrg;generalize acc[j]=x at Hts Hmem Hrg;rcases Decidable.em (x.name=f.name)with hnm|hnm
      ·have q2:(x.name == f.name)=true:=by simp[hnm]
       have Hend:=Aa (hft3.o.trans (by rw[if_pos (.inr (Qed Hmem.o (.inr hnm)))]));clear hnm;go_wp2_with ((with_reducible refine wpList_load_mid (op:=⟨_,.load 122 _,_,_,_,none⟩) rfl 122 _ rfl bA (oA+j*6) ?_ _ _ Hrg.o underlying122 ?_ ?_ ?_);rfl;rfl;kernel_rfl)
       go_ret2;exact Fy.no Hend.o rfl (Hbq.o.alloc Hbq.o.size _)
      have q2:(x.name == f.name)=false:=by simp[hnm]
      rcases aG x.tag f.tag with ht|ht
      ·have q3:decide ((f.tag:Int)<=(x.tag:Int))=false:=eT
       have Hin:=Aa (show ∀y∈acc.take (j+1),y.name≠f.name/\y.tag<f.tag from by
        intro y hy;rw[Hts.o]at hy;rcases af.1 hy with hy|hy
        ·exact hin.o y hy
        simp at hy;subst hy;exact⟨hnm,ht⟩)
       clear hnm;go_wp2_with ((with_reducible refine wpList_load_mid (op:=⟨_,.load 122 _,_,_,_,none⟩) rfl 122 _ rfl bA (oA+j*6) ?_ _ _ Hrg.o underlying122 ?_ ?_ ?_);rfl;rfl;kernel_rfl)
       go_roundw
       case rel=>exact⟨j+1,by go_num,by omega,Hin.o,hbq.o.alloc (Nat.le_of_lt hzq) _,by simp;omega,Ah hfr.o hzq ((Ap wr.heap.size wr).alloc (An _) _)⟩
       case measure=>simp[intOf];omega
      have q3:decide ((f.tag:Int)<=(x.tag:Int))=true:=by rw[decide_eq_true_iff];omega
      have Hend:=Aa (hft3.o.trans (by rw[if_pos (.inr (Qed Hmem.o (.inl ht)))]));clear hnm;go_wp2_with ((with_reducible refine wpList_load_mid (op:=⟨_,.load 122 _,_,_,_,none⟩) rfl 122 _ rfl bA (oA+j*6) ?_ _ _ Hrg.o underlying122 ?_ ?_ ?_);rfl;rfl;kernel_rfl)
      go_ret2;exact Fy.no Hend.o rfl (Hbq.o.alloc Hbq.o.size _)
     ·have j2:¬(j:Int)<(acc.length:Int):=aH
      have Hft4:=Aa (show Fi (c::r)=Qni c nm (Gh c (ps.drop (k+1)) (acc++[f]))from by
       rw[hft3.o,if_neg];rintro(h|h)
       ·omega
       rw[Qhg (fun y hy=>hin.o y (by rw[au aH];exact hy))]at h;cases h)
      have hb1:Below wo wo wr:=Hb4r.o.trans (hbq.o.mono hz4);have Hown:=Aa (Db hown.o hb1);have Hpr:=@Aa (∀j (hj:j<ps.length),wr.cell? ⟨g,j,none⟩=some (.string ⟨ps[j].toArray⟩)) (fun j hj=>(hb1.cell (p:=⟨g,j,none⟩) (show g<wo.heap.size by omega)).trans (hpr.o j hj));have HT1:=Aa (Ah hT.o (show w2.heap.size<wo.heap.size by omega) hb1);have HB1:=Aa (hB.o.belowAt (show w2.heap.size<wo.heap.size by omega) hb1);have HK1:=Aa (Aj hK.o (show w2.heap.size<wo.heap.size by omega) hb1);have hz5:w3.heap.size<=wr.heap.size:=aH;have hz6:w.heap.size<=w3.heap.size:=aH;clear hb1 f0 f1;go_wp2_with fail;refine Bq [98,99,100,101,102,103,104,105,106,107,999] aL aL aL (fun u=>by dsimp only[Bv,Bs,List.set,am,Nat.reduceAdd])
       (fun i v W=>match i with|0=>v=w2.heap.size|1=>v=w2.heap.size|2=>v=w2.heap.size|3=>v=(w2,2)|4=>v=.slice A acc.length cA|5=>v=.agg #[(f.tag:Int),f.name,f.kind.signs,f.kind.base,f.kind.name,f.given]|8=>v=w2.heap.size|9=>v=(w2,2)|_=>True)
       (fun L U W=>Below w w W/\w3.heap.size<=W.heap.size/\(∀j (hj:j<ps.length),W.cell? ⟨g,j,none⟩=some (.string ⟨ps[j].toArray⟩))/\(W.there w2 0 4/\Rj W w2.heap.size) /\
        (L 10=false->W.rangeAt w2 0 [.int .u8 (c.toNat:Int),nm,.slice A acc.length cA,.string ⟨(c::r).toArray⟩])/\(L 10=true->W.rangeAt w2 0 [.int .u8 (c.toNat:Int),nm,U 7,.string ⟨(c::r).toArray⟩]) /\
        (L 5=false->W.rangeAt w4 0 [(f.tag:Int),f.name,f.kind.signs,f.kind.base,f.kind.name,f.given])/\(L 7=false->W.ownsRow w3 122 6 (.slice A acc.length cA) acc.length (acc.flatMap Vp))/\(L 7=true->W.ownsRow w3 122 6 (U 7) (acc.length+1) (acc.flatMap Vp++Vp f)) /\
        (L 6=true->L 7=false->∃q,U 6=.slice (some ⟨q,0,none⟩) 1 1/\W.rangeAt q 0 [(f.tag:Int),f.name,f.kind.signs,f.kind.base,f.kind.name,f.given]))
       (fun _ _=>True) (fun w w' _ i v h=>by revert h;exact fun h=>h) ⟨Hbq.o.drew,hz5,Hpr.o,⟨HK1.o,HB1.o⟩,fun _=>HT1.o,by simp,fun _=>hfr.o,fun _=>Hown.o,by simp,by simp⟩ ?_ ?_
      ·repeat (first|exact Ak.nil|(refine Ak.cons ?_ ?_;rotate_left))
       all_goals
        rintro L U W hL hpre hR hun hdep K hK;have Hdep:=Aa hdep;have HR:=Aa hR;clear hun hdep hR;first|(simp[Region.binds]at hpre;done)|simp[Region.binds]at hpre|clear hpre
       ·go_simp;exact hK _ _ _ rfl Ac HR.o rfl
       ·go_simp;exact hK _ _ _ rfl Ac HR.o rfl
       ·have u1:=hpre.2;go_simp;exact hK w2.heap.size _ _ rfl Ac HR.o (by simp[Act.put,u1])
       ·have u2:=hpre.2;go_simp;exact hK (w2,2) _ _ rfl Ac HR.o (by simp[Act.put,u2])
       ·have h10:=(Az Hdep.o 10 7 rfl (Az Hdep.o 7 4 rfl hL))
        obtain⟨r1,r2,r3,r4,r5,r6,r7,r8,r9,r0⟩:=HR.o;have u3:=hpre.2;have c2:W.cell? (w2,2)=some (.slice A acc.length cA):=by simpa using Ab (r5 h10) 2 rfl
        clear r1 r2 r3 r4 r5 r6 r7 r8 r9 r0;go_simp;exact hK (.slice A acc.length cA) _ _ rfl Ac HR.o (by simp[Act.put,u3])
       ·obtain⟨r1,r2,r3,r4,r5,r6,r7,r8,r9,r0⟩:=HR.o;rw[if_pos cx];refine wp_load_mid 122 _ rfl w4 0 rfl [(f.tag:Int),f.name,f.kind.signs,f.kind.base,f.kind.name,f.given] _ (r7 hL) underlying122 rfl aL ?_;exact hK (.agg ([(f.tag:Int),f.name,f.kind.signs,f.kind.base,f.kind.name,f.given]:List Value).toArray) _ _ rfl Ac ⟨r1,r2,r3,r4,r5,r6,fun h=>by simp at h,r8,r9,r0⟩ rfl
       ·obtain⟨r1,r2,r3,r4,r5,r6,r7,r8,r9,r0⟩:=HR.o;have R1:=Aa r1;have u5:=hpre.2;have HF5:=Aa (Bk W [(f.tag:Int),f.name,f.kind.signs,f.kind.base,f.kind.name,f.given] 122)
        have HRR:=Aa (show (∀j (hj:j<ps.length),(W.alloc (.cells #[(f.tag:Int),f.name,f.kind.signs,f.kind.base,f.kind.name,f.given] 122)).cell? ⟨g,j,none⟩=some (.string ⟨ps[j].toArray⟩))/\((W.alloc (.cells #[(f.tag:Int),f.name,f.kind.signs,f.kind.base,f.kind.name,f.given] 122)).there w2 0 4/\Rj (W.alloc (.cells #[(f.tag:Int),f.name,f.kind.signs,f.kind.base,f.kind.name,f.given] 122)) w2.heap.size) /\
         (L 10=false->(W.alloc (.cells #[(f.tag:Int),f.name,f.kind.signs,f.kind.base,f.kind.name,f.given] 122)).rangeAt w2 0 [.int .u8 (c.toNat:Int),nm,.slice A acc.length cA,.string ⟨(c::r).toArray⟩])/\(L 10=true->(W.alloc (.cells #[(f.tag:Int),f.name,f.kind.signs,f.kind.base,f.kind.name,f.given] 122)).rangeAt w2 0 [.int .u8 (c.toNat:Int),nm,U 7,.string ⟨(c::r).toArray⟩]) /\
         (L 5=false->(W.alloc (.cells #[(f.tag:Int),f.name,f.kind.signs,f.kind.base,f.kind.name,f.given] 122)).rangeAt w4 0 [(f.tag:Int),f.name,f.kind.signs,f.kind.base,f.kind.name,f.given])/\(L 7=false->(W.alloc (.cells #[(f.tag:Int),f.name,f.kind.signs,f.kind.base,f.kind.name,f.given] 122)).ownsRow w3 122 6 (.slice A acc.length cA) acc.length (acc.flatMap Vp))/\(L 7=true->(W.alloc (.cells #[(f.tag:Int),f.name,f.kind.signs,f.kind.base,f.kind.name,f.given] 122)).ownsRow w3 122 6 (U 7) (acc.length+1) (acc.flatMap Vp++Vp f))
         from⟨fun j hj=>by rw[World.cell?_alloc_old _ _ _ (show g≠W.heap.size by omega)];exact r3 j hj,⟨ar r4.1 _,r4.2.belowAt (show w2.heap.size<W.heap.size by omega) ((Ap _ _).alloc (An _) _)⟩,fun h=>World.rangeAt_alloc (r5 h) _,fun h=>World.rangeAt_alloc (r6 h) _,fun h=>World.rangeAt_alloc (r7 h) _,fun h=>(r8 h).alloc _,fun h=>(r9 h).alloc _⟩)
        clear r1 r3 r4 r5 r6 r7 r8 r9 r0;go_simp;refine hK (.slice (W,0) 1 1) _ _ Ac Ac ⟨R1.o.alloc R1.o.size _,by simp;omega,HRR.o.1,HRR.o.2.1,HRR.o.2.2.1,HRR.o.2.2.2.1,HRR.o.2.2.2.2.1,HRR.o.2.2.2.2.2.1,HRR.o.2.2.2.2.2.2,fun _ _=>⟨W.heap.size,rfl,HF5.o⟩⟩ (by simp[Act.put,u5])
       ·obtain⟨r1,r2,r3,r4,r5,r6,r7,r8,r9,r0⟩:=HR.o;have h10:=(Az Hdep.o 10 7 rfl hL)
        have h7:=r8 hL;obtain⟨q,e1,e2⟩:=r0 hpre.2 hL;obtain⟨i0,hi,hz0,hz1,hz2'⟩:=info_parts Tryz.infoIf;rw[if_pos cx];refine wp_append_own W (.tmp 102) (.tmp 104) 155 rfl w3 122 i0 (.agg #[.int .i64 0,a6,a6,a6,a6,a6]) 6 88 underlying155 hi hz0 hz1 hz2' rfl aJ (.slice A acc.length cA) acc.length (acc.flatMap Vp) hpre.1.2 h7 ⟨q,0,none⟩ 1 1 (Vp f) e1 (by simp[Vp]) ?_ (fun y hy=>Qm9 [f] y dK) aU aH r2 ?_
        ·intro i x hx;rw[Qd6];have:=e2 i x hx;simpa using this
        intro v' w' hown' hgr _;have hbw:Below w3 W w':=(Ap _ _).grown hgr r2 (fun k hk=>(h7.lt k hk).1);refine hK v' w' _ Ac Ac ⟨r1.trans (hbw.mono hz6),ad r2 hbw.size,fun j hj=>(hbw.cell (p:=⟨g,j,none⟩) (show g<w3.heap.size by omega)).trans (r3 j hj),⟨Aj r4.1 hz3 hbw,r4.2.belowAt hz3 hbw⟩,fun h=>Ah (r5 h) hz3 hbw,fun h=>absurd h10 (by rw[show L 10=true from h];decide),fun h=>absurd hpre.2 (by rw[Az Hdep.o 6 5 rfl h];decide),fun h=>by simp at h,fun _=>hown',fun _ h=>by simp at h⟩ rfl
       ·have u0:=hpre.1.2;go_simp;exact hK w2.heap.size _ _ rfl Ac HR.o aI
       ·have u8:=hpre.2;go_simp;exact hK (w2,2) _ _ rfl Ac HR.o aI
       ·obtain⟨r1,r2,r3,r4,r5,r6,r7,r8,r9,r0⟩:=HR.o;have R1:=Aa r1;have l7:L 7=true:=by first|exact hpre.2.1|exact hpre.2.1.1
        have h5:=r5 hL;have h9:=r9 l7;obtain⟨A7,n7,c7,e7⟩:=Ek h9;rw[e7]at h9;obtain⟨y2,c2⟩:=Option.isSome_iff_exists.1 (r4.1 2 aJ).1;rw[am]at c2;have z2:W.frozen? (w2,2)=false:=by simpa using(r4.1 2 aJ).2
        have hT10:=@Aa ((W.setCell ⟨w2.heap.size,2,none⟩ (.slice A7 n7 c7)).rangeAt w2 0 [.int .u8 (c.toNat:Int),nm,(.slice A7 n7 c7),.string ⟨(c::r).toArray⟩]) (Cr [.int .u8 (c.toNat:Int),nm] [.slice A acc.length cA] [.string ⟨(c::r).toArray⟩] [.slice A7 n7 c7] h5 rfl);have hK10:=@Aa ((W.setCell ⟨w2.heap.size,2,none⟩ (.slice A7 n7 c7)).there w2 0 4) (ai r4.1 w2 2 [.slice A7 n7 c7]);have hBk10:=Aa (r4.2.set (o:=2) (.slice A7 n7 c7))
        have hP10:=Aa (show ∀j (hj:j<ps.length),(W.setCell ⟨w2.heap.size,2,none⟩ (.slice A7 n7 c7)).cell? ⟨g,j,none⟩=some (.string ⟨ps[j].toArray⟩)from fun j hj=>by
         rw[World.cell?_setCell_other _ _ _ _ bQ];exact r3 j hj)
        have hO10:=@Aa ((W.setCell ⟨w2.heap.size,2,none⟩ (.slice A7 n7 c7)).ownsRow w3 122 6 (.slice A7 n7 c7) (acc.length+1) (acc.flatMap Vp++Vp f)) (h9.kept (Jj W _ (.slice A7 n7 c7)) (.inr (fun e=>by have:=(h9.lt _ e).1;simp at this;omega)));have hz10:w3.heap.size<=(W.setCell ⟨w2.heap.size,2,none⟩ (.slice A7 n7 c7)).heap.size:=by simpa using r2
        have hB10:=@Aa (Below w w (W.setCell ⟨w2.heap.size,2,none⟩ (.slice A7 n7 c7))) (r1.setCell hz2 _);clear r1 r3 r4 r5 r6 r7 r8 r9 r0 h5 h9;go_simp;exact hK undef _ _ Ac Ac ⟨hB10.o,hz10,hP10.o,⟨hK10.o,hBk10.o⟩,fun h=>by simp at h,fun _=>by show World.rangeAt _ _ _ [_,_,U 7,_];rw[e7];exact hT10.o,fun h=>absurd l7 (by rw[(Az Hdep.o 7 6 rfl (Az Hdep.o 6 5 rfl h))];decide),fun h=>absurd l7 (by rw[show L 7=false from h];decide),fun _=>by show World.ownsRow _ _ _ _ (U 7) _ _;rw[e7];exact hO10.o,fun _ h=>absurd l7 (by rw[show L 7=false from h];decide)⟩ (by simp[Act.put,hpre,e7])
      rintro L U W hL hφ hR;obtain⟨hbW,hzW,hprW,hKW,_,hTW,_,_,hoW,_⟩:=hR;have hTW':=hTW (hL 10 aJ);have hoW':=hoW (hL 7 aJ);generalize U 7=V at hTW' hoW';have HbW:=Aa hbW;have HprW:=Aa hprW;have HKW:=Aa hKW.1;have HBW:=Aa hKW.2;have HTW:=Aa hTW';have HoW:=Aa hoW';clear hL hφ hbW hprW hKW hTW hoW hTW' hoW';go_wp2_with fail;go_roundw
      case rel=>exact⟨k+1,acc++[f],V,by go_num,by omega,by simp;omega,Hft4.o,by rw[ah,List.flatMap_append,show [f].flatMap Vp=Vp f from by simp];exact HoW.o,HbW.o,hzW,HprW.o,HTW.o,HKW.o,HBW.o⟩
      case measure=>simp[intOf];omega
  ·have i2:¬(k:Int)<(ps.length:Int):=aH;have Hfin:=Aa (show Fi (c::r)=some ⟨c,nm,acc⟩by rw[hft.o,List.drop_of_length_le aH];rfl);go_wp2_with fail;go_ret2;refine Fy.yes Hfin.o (b:=w2.heap.size) (fv:=.slice A acc.length cA) rfl hz2 ?_ (fun k hk=>by have:=(hown.o.lt k hk).1;omega) hbr.o;refine⟨show w2.heap.size<wo.heap.size by omega,hB.o,by simpa using Ab hT.o 0 rfl,by simpa using Ab hT.o 1 rfl,by simpa using Ab hT.o 2 rfl,?_,A,cA,rfl,ha8,Hrow.o⟩;have hB:=(Gm.1 Hfin.o).2;show _=some (Value.string ⟨(Ye ⟨c,nm,acc⟩).toArray⟩);rw[hB];simpa using Ab hT.o 3 rfl
theorem Qdb(s:List UInt8)(w:World)(hs:s.length<=4000000):
  Calls prog 94 #[s] w (Fy (Fi s) w):=by
 cases s with
 |nil=>exact Qji w
 |cons c r=>
  simp at hs;by_cases hc:Eo c
  ·by_cases h:(Dp 61 r).2.2=false\/Bh (Dp 61 r).1=false\/(Dp 61 r).2.1=[]
   ·exact Qg9 c r w aH hc h
   simp only[not_or]at h;exact Qfx c r (Dp 61 r).1 (Dp 61 r).2.1 w aH hc (Prod.ext rfl (Prod.ext rfl (by simpa using h.1))) (by simpa using h.2.1) h.2.2
  exact Qfy c r w aH hc
def Qn1(w:World)(p:Value)(xs:List PT):Prop:=
 ∃b mb,p=.pointer (some ⟨b,0,none⟩)/\b<w.heap.size/\w.cell? ⟨b,1,none⟩=some (.map (some mb))/\Qt w mb xs
theorem Tr.map{w:World}{p:Value}{xs:List PT}(h:Tr w p xs):Qn1 w p xs:=by
 obtain⟨b,A,c,mb,e,h0,h1,h2,h3,h4,_⟩:=h
 exact⟨b,mb,e,h0,h2,h4⟩
theorem Gj{w:World}{mb:Nat}{xs:List PT}(h:Qt w mb xs)(n:Cw)(hn:n.length<=9223372036854775807):
  (Instr.lookup 118 (.map (some mb)) (.string ⟨n.toArray⟩) false).run prog w=.ok (Qbb (Fh xs n)) w:=
 D5.lookup h Tryz.keyStr underlying118 (Tryz.zeroPtr w) (Qh2 hn)
theorem Kr{k:Kd}(h:Cq k):k.name.length<=3:=by
 rcases h.2.1 with⟨_,hn⟩|⟨_,hn⟩
 ·exact(Dz.1 hn).2.1
 rw[hn];simp
theorem Tr.tys{w:World}{p:Value}{xs:List PT}(h:Tr w p xs):∀x∈xs,So w x:=by
 obtain⟨_,_,_,_,_,_,_,_,_,_,h,_⟩:=h
 exact h
theorem Qfe(p:Value)(xs:List PT)(k:Kd)(w:World)(h:Qn1 w p xs)(hk:k.name.length<=100):
  Calls prog 66 #[p,Et k] w fun e w'=>e=.returned (.bool (decide (Cc (Ag xs) k)))/\Below w w w':=by
 obtain⟨b,mb,rfl,hb,hm,hn⟩:=h;have Hn:=Aa hn;clear hn;unfold Et;generalize hd:(.cells #[k.signs,k.base,k.name] 50:Obj)=ob;have hl0:w.heap.size<(w.alloc ob).heap.size:=aK;have x1:(w.alloc ob).cell? (w,1)=k.base:=by rw[<-hd];simp
 have x2:(w.alloc ob).cell? (w,2)=k.name:=by rw[<-hd];simp
 have x3:(w.alloc ob).cell? (b,1)=some (.map (some mb)):=by rw[World.cell?_alloc_old _ _ _ (show b≠w.heap.size by omega)];exact hm
 have hlook:∀q,(Instr.lookup 118 (.map (some mb)) k.name false).run prog ((w.alloc ob).drewN q)=.ok (Qbb (Fh xs k.name)) ((w.alloc ob).drewN q):=fun q=>Gj (D5.below (Hn.o.alloc _) (below_drewN (Ap _ _) q)) k.name aH;have Hd:=Aa hd
 have Hr:=Aa (show decide (Cc (Ag xs) k)=(decide (k.base≠[64]) || (Fh xs k.name).isSome)by
  have e:Cc (Ag xs) k↔(k.base=[64]->(Fh xs k.name).isSome=true):=by unfold Cc;rw[Jp];simp
  by_cases h:k.base=[64]
  ·cases hf:Fh xs k.name with
   |none=>rw[aC (fun h2=>by have:=e.1 h2 h;rw[hf]at this;cases this)];simp[h]
   |some x=>rw[aD (e.2 (fun _=>by rw[hf];rfl))];simp
  rw[aD (e.2 (fun h2=>absurd h2 h))];simp[h])
 have Hb:=@Aa (Below w w (w.alloc ob)) ((Ap _ _).alloc (An _) _);go_enter func66,ntmps66;rcases Decidable.em (k.base=[64])with h64|h64
 ·have t1:(k.base != [64])=false:=fe;have H64:=Aa h64;clear h64 hd hl0;go_wp2_with fail;rw[Hd.o];cases hf:Fh xs k.name with
  |none=>
   rw[hf]at hlook;have Hf:=Aa hf;clear hf;unfold Qbb at hlook;refine Bq [5,6,7,8,9,10,11,12,13,14,15,16,17,4] aL aL aL (fun u=>by dsimp only[Bv,Bs,List.set,am,Nat.reduceAdd])
    (fun i v W=>match i with|0=>v=(w,1)|1=>v=k.base|2=>v=.bool false|3=>v=.bool false|4=>v=b|5=>v=b|6=>v=(b,1)|7=>v=.map (some mb)|8=>v=(w,2)|9=>v=k.name|10=>v=.pointer none|11=>v=.bool false|12=>v=.bool false|13=>v=.bool false|_=>True) (fun L U W=>∃q,W=(w.alloc ob).drewN q) (fun _ _=>True) (fun _ _ _ _ _ h=>h) ⟨1,rfl⟩ ?_ ?_
   ·exact iH
   rintro L U W hL hφ ⟨q,rfl⟩;have e13:U 13=.bool false:=hφ 13 aJ;simp only[e13];go_wp2_with fail;go_ret;exact⟨Eu (Dg (by rw[Hr.o,Hf.o];simp[H64.o])),below_drewN Hb.o _⟩
  |some x=>
   rw[hf]at hlook;have Hf:=Aa hf;clear hf;unfold Qbb PT.ptr at hlook;refine Bq [5,6,7,8,9,10,11,12,13,14,15,16,17,4] aL aL aL (fun u=>by dsimp only[Bv,Bs,List.set,am,Nat.reduceAdd])
    (fun i v W=>match i with|0=>v=(w,1)|1=>v=k.base|2=>v=.bool false|3=>v=.bool false|4=>v=b|5=>v=b|6=>v=(b,1)|7=>v=.map (some mb)|8=>v=(w,2)|9=>v=k.name|10=>v=x.blk|11=>v=.bool true|12=>v=.bool true|13=>v=.bool true|_=>True) (fun L U W=>∃q,W=(w.alloc ob).drewN q) (fun _ _=>True) (fun _ _ _ _ _ h=>h) ⟨1,rfl⟩ ?_ ?_
   ·exact iH
   rintro L U W hL hφ ⟨q,rfl⟩;have e13:U 13=.bool true:=hφ 13 aJ;simp only[e13];go_wp2_with fail;go_ret;exact⟨Eu (Dg (by rw[Hr.o,Hf.o];simp)),below_drewN Hb.o _⟩
 have t1:(k.base != [64])=true:=fe;have H64:=Aa h64;clear h64 hd hl0;go_wp2_with fail;rw[Hd.o];refine Bq [5,6,7,8,9,10,11,12,13,14,15,16,17,4] aL aL aL (fun u=>by dsimp only[Bv,Bs,List.set,am,Nat.reduceAdd])
  (fun i v W=>match i with|0=>v=(w,1)|1=>v=k.base|2=>v=.bool true|3=>v=.bool true|12=>v=.bool true|13=>v=.bool true|_=>True) (fun L U W=>∃q,W=(w.alloc ob).drewN q) (fun _ _=>True) (fun _ _ _ _ _ h=>h) ⟨1,rfl⟩ ?_ ?_
 ·exact iH
 rintro L U W hL hφ ⟨q,rfl⟩;have e13:U 13=.bool true:=hφ 13 aJ;simp only[e13];go_wp2_with fail;go_ret;exact⟨Eu (Dg (by rw[Hr.o];simp[H64.o])),below_drewN Hb.o _⟩
theorem V9{S:List Ty}{n:Nat}{t:Ty}(h:Gg S t=none):Cg S (n+1) t=true:=by rw[Cg,h]
theorem Qm3{S:List Ty}{n:Nat}{t u:Ty}(h:Gg S t=some u):Cg S (n+1) t=Cg S n u:=by rw[Cg,h]
theorem Qi2{S:List Ty}{t:Ty}(h:t.sort≠85):Gg S t=none:=if_neg h
theorem Qjk{S:List Ty}{t:Ty}{f:Fd}{fs:List Fd}(h:t.sort=85)(hf:t.fields=f::fs):Gg S t=if f.kind.signs=[]/\f.kind.base=[64]then Bt S f.kind.name else none:=by
 unfold Gg;rw[if_pos h,hf]
theorem Qef{t:Ty}(h:Ft t)(hs:t.sort=85):∃f fs,t.fields=f::fs/\Cq f.kind:=by
 obtain⟨_,_,h3,_,h5⟩:=h;cases hf:t.fields with
 |nil=>have:=h5 hf;rw[hs]at this;exact absurd this aJ
 |cons f fs=>exact⟨f,fs,rfl,((h3.1 f eF).2.2.2.2 eK).1⟩
theorem Qjp(p:Value)(xs:List PT)(x:PT)(w:World)(h:Qn1 w p xs)(hT:∀y∈xs,So w y)(hok:∀y∈xs,Ft y.ty)(hS:Jl (Ag xs))(hx:x∈xs):
  Calls prog 95 #[p,x.ptr] w fun e w'=>e=.returned (.bool (Cg (Ag xs) 9 x.ty))/\Below w w w':=by
 have Hmap:=Aa h;obtain⟨b,mb,rfl,hb,hm,hn⟩:=h;have HT:=Aa hT;have Hok:=Aa hok;have HS:=Aa hS;have Hx:=Aa hx;have Hn:=Aa hn;have Hm:=Aa hm;clear hT hok hS hx hn hm;unfold PT.ptr;go_enter func95,ntmps95;go_wp2_with fail;go_loopw [1,6] (fun t i wr=>∃(n:Nat) (y:PT),i=.int .i64 n/\n<=9/\t=y.blk/\Hid (y∈xs)/\Hid (Cg (Ag xs) 9 x.ty=Cg (Ag xs) (9 - n) y.ty)/\Hid (Below w w wr)) (fun _ i _=>9 - (intOf i).toNat)
 case atStart=>exact⟨0,x,rfl,by omega,rfl,Hx.o,rfl,Ap _ _⟩
 case round=>
  obtain⟨n,y,rfl,hn9,rfl,hy,he,hbr⟩:=hrel;have n1:(0:Int)<=(n:Int):=aH;obtain⟨hyb,_,y0,y1,y2,y3,A,cA,hyf,hl8,hrow⟩:=(HT.o y hy.o).below hbr.o;have Hrow:=Aa hrow;have hzw:=hbr.o.size;rw[hyf]at y2;clear hrow hyf y1 y3;by_cases hlt:n<9
  ·have n2:(n:Int)<9:=aH;have he2:=Aa (show Cg (Ag xs) 9 x.ty=Cg (Ag xs) (8 - n+1) y.ty by rw[he.o,show 9 - n=8 - n+1 by omega]);by_cases h85:y.ty.sort=85
   ·have t1:((y.ty.sort.toNat:Int) != 85)=false:=Nz (d:=85) h85;obtain⟨f,fs,hf,hkd⟩:=Qef (Hok.o y hy.o) h85;have Hnext:=Aa (Qjk (S:=Ag xs) h85 hf);have hpos:0<y.ty.fields.length:=eF;obtain⟨bA,oA,rfl,hbA,hrg⟩:=Sp.range Hrow.o hpos;have hf0:y.ty.fields[0]=f:=by simp[hf]
    rw[hf0,Nat.zero_mul,Nat.add_zero]at hrg;have Hrg:=@Aa (wr.rangeAt bA (oA+2) [f.kind.signs,f.kind.base,f.kind.name]) (Qc3 [(f.tag:Int),f.name] _ [f.given] hrg);have hp1:(0:Int)<(y.ty.fields.length:Int):=aH;have Href:=Aa (HS.o y.ty (ap (f:=(·.ty)) hy.o) ew f eF);have Hkd:=Aa hkd;have hnl:=Kr hkd;clear h85 hf hf0 hrg hkd;have hbb:=Aa ((Hm.o));by_cases hsg:f.kind.signs=[]
    ·have s1:(f.kind.signs != [])=false:=cU;have s2:f.kind.signs.isEmpty=true:=cU;have s4:(!f.kind.signs.isEmpty)=false:=cU;by_cases h64:f.kind.base=[64]
     ·have s3:(f.kind.base == [64])=true:=fe;have s5:(f.kind.base != [64])=false:=fe;have hsome:=Href.o h64;rw[Jp]at hsome;cases hz:Fh xs f.kind.name with
      |none=>rw[hz]at hsome;cases hsome
      |some z=>
       have Hz:=Aa (show Cg (Ag xs) 9 x.ty=Cg (Ag xs) (8 - n) z.ty from by
        rw[he2.o];exact Qm3 (by rw[Hnext.o,if_pos ⟨hsg,h64⟩,Jp,hz];rfl))
       have Hzm:=Aa (Gp hz).1;generalize hd:(.cells #[f.kind.signs,f.kind.base,f.kind.name] 50:Obj)=ob;have x2:(wr.alloc ob).cell? (wr,2)=f.kind.name:=by rw[<-hd];simp
       have x3:(wr.alloc ob).cell? (b,1)=some (.map (some mb)):=by
        rw[World.cell?_alloc_old _ _ _ (show b≠wr.heap.size by omega)];exact(hbr.o.cell (p:=⟨b,1,none⟩) hb).trans Hm.o
       have hlook:∀q,(Instr.lookup 118 (.map (some mb)) f.kind.name false).run prog ((wr.alloc ob).drewN q)=.ok z.blk ((wr.alloc ob).drewN q):=fun q=>by
        have:=Gj (D5.below (D5.alloc (D5.below Hn.o hbr.o) ob) (below_drewN (Ap _ _) q)) f.kind.name aH;rw[hz]at this;exact this
       have Hbb:=@Aa (Below w w (wr.alloc ob)) (hbr.o.alloc hzw _);have Hd:=Aa hd;clear hd hsg h64 hz hsome;go_wp2_with ((with_reducible refine wpList_load_mid (op:=⟨_,.load 50 _,_,_,_,none⟩) rfl 50 _ rfl bA (oA+2) ?_ _ _ Hrg.o underlying50 ?_ ?_ ?_);rfl;rfl;kernel_rfl)
       rw[Hd.o];refine Bq [28,29,30,31,32,33,34,1] aL aL aL (fun u=>by dsimp only[Bv,Bs,List.set,am,Nat.reduceAdd])
        (fun i v W=>match i with|0=>v=b|1=>v=b|2=>v=(b,1)|3=>v=.map (some mb)|4=>v=(wr,2)|5=>v=f.kind.name|6=>v=z.blk|7=>v=z.blk|_=>True) (fun L U W=>∃q,W=(wr.alloc ob).drewN q) (fun _ _=>True) (fun _ _ _ _ _ h=>h) ⟨1,rfl⟩ ?_ ?_
       ·repeat (first|exact Ak.nil|(refine Ak.cons ?_ ?_;rotate_left))
        all_goals
         rintro L U W hL hpre ⟨q,rfl⟩ hun hdep K hK;have hlq:=hlook q;clear hun hdep;first|(simp[Region.binds]at hpre;done)|simp[Region.binds]at hpre|clear hpre
         go_simp;first|exact hK _ _ _ rfl Ac ⟨q,rfl⟩ rfl|exact hK _ _ _ rfl Ac ⟨q,rfl⟩ aI
       rintro L U W hL hφ ⟨q,rfl⟩;have e7:U 7=z.blk:=hφ 7 aJ;simp only[e7];clear hφ hL hlook x2 x3;go_wp2_with fail;go_roundw
       case rel=>exact⟨n+1,z,by go_num,by omega,rfl,Hzm.o,by show _=Cg (Ag xs) (9 - (n+1)) z.ty;rw[Hz.o,show 9 - (n+1)=8 - n by omega],below_drewN Hbb.o _⟩
       case measure=>simp[intOf];omega
     have s3:(f.kind.base == [64])=false:=fe;have s5:(f.kind.base != [64])=true:=fe;have Hend:=Aa (he2.o.trans (V9 (by rw[Hnext.o,if_neg (fun h=>h64 h.2)])));clear hsg h64;go_wp2_with ((with_reducible refine wpList_load_mid (op:=⟨_,.load 50 _,_,_,_,none⟩) rfl 50 _ rfl bA (oA+2) ?_ _ _ Hrg.o underlying50 ?_ ?_ ?_);rfl;rfl;kernel_rfl)
     exact kY
    have s1:(f.kind.signs != [])=true:=cU;have s2:f.kind.signs.isEmpty=false:=cU;have s4:(!f.kind.signs.isEmpty)=true:=cU;have Hend:=Aa (he2.o.trans (V9 (by rw[Hnext.o,if_neg (fun h=>hsg h.1)])));clear hsg;go_wp2_with ((with_reducible refine wpList_load_mid (op:=⟨_,.load 50 _,_,_,_,none⟩) rfl 50 _ rfl bA (oA+2) ?_ _ _ Hrg.o underlying50 ?_ ?_ ?_);rfl;rfl;kernel_rfl)
    exact kY
   have t1:((y.ty.sort.toNat:Int) != 85)=true:=Rl (d:=85) h85;have Hend:=Aa (he2.o.trans (V9 (Qi2 h85)));clear h85;go_wp2_with fail;go_ret;exact⟨Eu (Dg Hend.o.symm),hbr.o⟩
  ·obtain rfl:n=9:=aH;have Hend:=@Aa (Cg (Ag xs) 9 x.ty=false) he.o;go_wp2_with fail;go_ret;exact⟨Eu (Dg Hend.o.symm),hbr.o⟩
theorem So.kept{w w':World}{x:PT}{row:Option Nat}(h:So w x)(hg:w.grownBy w' row)(h1:row≠some x.blk)(h2:∀k,0<x.ty.fields.length->x.fv.ownBlock=some k->row≠some k):So w' x:=by
 obtain⟨h0,hk,a0,a1,a2,a3,A,c,e,hl,hr⟩:=h;have hne:some x.blk≠row:=fun e=>h1 e.symm;refine⟨ac h0 hg.size,hk.grown h0 hg hne,hg.cell a0 hne,hg.cell a1 hne,hg.cell a2 hne,hg.cell a3 hne,A,c,e,hl,hr.1,hr.2.1,fun hn=>?_⟩;obtain⟨b,off,eA,hb,hc⟩:=hr.2.2 hn;have hne2:some b≠row:=fun e2=>h2 b aH (by rw[e,eA];rfl) e2.symm;exact⟨b,off,eA,ac hb hg.size,fun j u hu=>hg.cell (hc j u hu) hne2⟩
theorem So.fvlt{w:World}{x:PT}(h:So w x){k:Nat}(hn:0<x.ty.fields.length)(hk:x.fv.ownBlock=some k):k<w.heap.size:=by
 obtain⟨_,_,_,_,_,_,A,c,e,_,hr⟩:=h;obtain⟨b,off,eA,hb,_⟩:=hr.2.2 aH;rw[e,eA]at hk;simp only[Value.ownBlock,aj]at hk;omega
def Qgd(lo:Nat)(x:PT):Prop:=lo<=x.blk/\∀k,0<x.ty.fields.length->x.fv.ownBlock=some k->lo<=k
def Qj2(v:Value)(x:PT):Prop:=v.ownBlock≠some x.blk/\∀k,0<x.ty.fields.length->x.fv.ownBlock=some k->v.ownBlock≠some k
def Qat(w:World)(lo:Nat)(v:Value)(xs:List PT):Prop:=(∀x∈xs,So w x/\Qgd lo x/\Qj2 v x)/\xs.Pairwise fun x y=>x.blk≠y.blk
theorem Qat.far{w w':World}{lo b:Nat}{v:Value}{xs:List PT}(h:Qat w lo v xs)(hg:w.grownBy w' (some b))(hb:b<lo):Qat w' lo v xs:=
 ⟨fun x hx=>by
  obtain⟨h1,h2,h3⟩:=h.1 x hx;refine⟨h1.kept hg (fun e=>?_) (fun k hn hk e=>?_),h2,h3⟩
  ·injection e with e;have:=h2.1;omega
  injection e with e;have:=h2.2 k hn hk;omega,h.2⟩
theorem Qat.below{w w':World}{lo:Nat}{v:Value}{xs:List PT}(h:Qat w lo v xs)(hb:Below w w w'):Qat w' lo v xs:=
 ⟨fun x hx=>⟨(h.1 x hx).1.below hb,(h.1 x hx).2⟩,h.2⟩
theorem Qat.push{wo w3 w5:World}{lo base n k1:Nat}{e:TypeId}{v v5:Value}{cs:List Value}{xs:List PT}{x:PT}(h:Qat wo lo v xs)(hb:Below wo wo w3)(hown:wo.ownsRow base e k1 v n cs)(hx:So w3 x)(hxb:wo.heap.size<=x.blk)
  (hxf:∀k,x.fv.ownBlock=some k->wo.heap.size<=k) (hlo:lo<=wo.heap.size) (hg:w3.grownBy w5 v.ownBlock) (hwh:v5.ownBlock=v.ownBlock\/∃k,v5.ownBlock=some k/\w3.heap.size<=k):Qat w5 lo v5 (xs++[x]):=by
 have hall:∀y∈xs++[x],So w3 y/\Qgd lo y/\Qj2 v y:=by
  intro y hy;rcases af.1 hy with hy|hy
  ·obtain⟨h1,h2⟩:=h.1 y hy;exact⟨h1.below hb,h2⟩
  simp at hy;subst hy;refine⟨hx,⟨by omega,fun k _ hk=>by have:=hxf k hk;omega⟩,fun e=>?_,fun k _ hk e=>?_⟩
  ·have:=(hown.lt _ e).2;omega
  have:=(hown.lt _ e).2;have:=hxf k hk;omega
 refine⟨fun y hy=>?_,?_⟩
 ·obtain⟨h1,h2,h3⟩:=hall y hy;refine⟨h1.kept hg h3.1 h3.2,h2,?_⟩;rcases hwh with hwh|⟨k,hwh,hk⟩
  ·unfold Qj2;rw[hwh];exact h3
  refine⟨fun e=>?_,fun k2 hn hk2 e=>?_⟩
  ·rw[hwh]at e;injection e with e;have:=h1.1;omega
  rw[hwh]at e;injection e with e;have:=h1.fvlt hn hk2;omega
 rw[List.pairwise_append];refine⟨h.2,by simp,fun y hy z hz=>?_⟩;simp at hz;subst hz;have:=(h.1 y hy).1.1;omega
def Qq(lo:Nat)(w:World)(p:Value)(xs:List PT):Prop:=
 ∃b A c mb,p=.pointer (some ⟨b,0,none⟩)/\b<w.heap.size/\w.cell? ⟨b,0,none⟩=some (.slice A xs.length c)/\w.cell? ⟨b,1,none⟩=some (.map (some mb))/\Cd w A xs.length (xs.map (·.ptr))/\Qt w mb xs/\(∀x∈xs,So w x)/\(xs.Pairwise fun x y=>x.blk≠y.blk) /\
  lo<=b/\lo<=mb/\(∀g o,0<xs.length->A=some ⟨g,o,none⟩->lo<=g)/\∀x∈xs,Qgd lo x
theorem Qq.isc{lo:Nat}{w:World}{p:Value}{xs:List PT}(h:Qq lo w p xs):Tr w p xs:=by
 obtain⟨b,A,c,mb,h0,h1,h2,h3,h4,h5,h6,h7,_⟩:=h;exact⟨b,A,c,mb,h0,h1,h2,h3,h4,h5,h6,h7⟩
theorem Qq.below{lo:Nat}{w w':World}{p:Value}{xs:List PT}(h:Qq lo w p xs)(hb:Below w w w'):Qq lo w' p xs:=by
 obtain⟨b,A,c,mb,e,h0,h1,h2,h3,h4,h5,h6,h7⟩:=h;obtain⟨hc,_,hz⟩:=Cj hb;exact⟨b,A,c,mb,e,hz _ h0,(hc _ _ h0).trans h1,(hc _ _ h0).trans h2,h3.below hb,D5.below h4 hb,fun x hx=>(h5 x hx).below hb,h6,h7⟩
theorem Qq.far{lo b0:Nat}{w w':World}{p:Value}{xs:List PT}(h:Qq lo w p xs)(hg:w.grownBy w' (some b0))(hb0:b0<lo):Qq lo w' p xs:=by
 obtain⟨b,A,c,mb,e,h0,h1,h2,h3,h4,h5,h6,l1,l2,l3,l4⟩:=h;have hne:some b≠some b0:=bQ;refine⟨b,A,c,mb,e,ac h0 hg.size,hg.cell h1 hne,hg.cell h2 hne,⟨h3.1,h3.2.1,fun hn=>?_⟩,D5.kept h4 hg bQ,fun x hx=>(h5 x hx).kept hg (fun e=>?_) (fun k hn hk e=>?_),h6,l1,l2,l3,l4⟩
 ·obtain⟨g,o,eA,hgl,hc⟩:=h3.2.2 hn;have:=l3 g o hn eA;exact⟨g,o,eA,ac hgl hg.size,fun j u hu=>hg.cell (hc j u hu) (by intro e;injection e with e;simp at e;omega)⟩
 ·injection e with e;have:=(l4 x hx).1;omega
 injection e with e;have:=(l4 x hx).2 k hn hk;omega
def Jy(o:Option (List Ty))(w:World)(e:Ending)(w':World):Prop:=
 (match o with
  |some S=>∃p xs,Ag xs=S/\e=.returned (.tuple #[p,.bool true])/\Qq w.heap.size w' p xs
  |none=>∃p:Option Addr,e=.returned (.tuple #[.pointer p,.bool false]))/\Below w w w'
theorem Jy.no{w w':World}{e:Ending}{o:Option (List Ty)}(ho:o=none){p:Option Addr}(he:e=.returned (.tuple #[.pointer p,.bool false]))(hb:Below w w w'):Jy o w e w':=by
 rw[ho];exact⟨⟨p,he⟩,hb⟩
theorem Jy.yes{w w':World}{e:Ending}{o:Option (List Ty)}{p:Value}{xs:List PT}(ho:o=some (Ag xs))(he:e=.returned (.tuple #[p,.bool true]))(hs:Qq w.heap.size w' p xs)(hb:Below w w w'):Jy o w e w':=by
 rw[ho];exact⟨⟨p,xs,rfl,he,hs⟩,hb⟩
theorem Qe5{xs:List PT}{x:PT}(h:Fh xs x.ty.name=none)(l:Lit)(hl:WideAt.IsKeyLit l):(if l.sameKey (.string x.ty.name)=true then x.ptr else Za xs l)=Za (xs++[x]) l:=by
 by_cases e:l=.string x.ty.name
 ·subst e;rw[if_pos (WideAt.sameKey_self hl)];unfold Fh at h;show x.ptr=Qbb ((xs++[x]).find? fun y=>decide (y.ty.name=x.ty.name));rw[List.find?_append,h];simp[Qbb]
 rw[if_neg (fun hh=>e ((WideAt.sameKey_iff (show WideAt.IsKeyLit (.string x.ty.name)from Ac)).1 hh))];cases l with
 |string s=>
  have hne:¬x.ty.name=s:=fun h2=>e (by rw[h2]);unfold Za Fh;simp only;rw[List.find?_append];simp[hne]
 |_=>rfl
theorem Qap{xs:List PT}{n:Cw}:Fh xs n=none↔(Ag xs).any (fun u=>decide (u.name=n))=false:=by
 unfold Fh Ag;rw[List.find?_eq_none,List.any_map];simp
theorem Tryz.infoPt:(prog.info? 116).map (fun i=>(i.zero,i.size,i.bytes))=some (some (.pointer none),1,8):=aL
theorem Qcf(s:List UInt8)(w:World)(hs:s.length<=4000000)(h:400<s.length):
  Calls prog 64 #[s] w (Jy (Cl s) w):=by
 have HF:=@Aa (Cl s=none) (if_pos h);have t1:(400:Int)<(s.length:Int):=aH;go_enter func64,ntmps64;go_wp2_with fail;go_ret2;exact Jy.no HF.o rfl (Ap _ _)
theorem Qgw(s:List UInt8)(w:World)(hs:s.length<=400):
  Calls prog 64 #[s] w (Jy (Cl s) w):=by
 have HF:=@Aa (Cl s=(match Gt (s.length+1) s []with|none=>none|some S=>if Jl S/\(∀t∈S,Cg S 9 t=true)then some S else none)) (if_neg aH);have t1:¬(400:Int)<(s.length:Int):=aH;have hmm:=@run_makeMap prog;go_enter func64,ntmps64;go_wp2_with fail;clear hmm;have HM0:=@Aa (D5 prog 9 (.pointer none) ((w.alloc (.map #[] 0)).alloc (.cells #[.slice none 0 0,.map (some w.heap.size)] 120)) w 0 (Za [])) (((D5.made w prog 9 (.pointer none)).alloc _).of_eq (fun l hl=>by cases l<;>rfl))
 have HR0:=Aa (show ((w.alloc (.map #[] 0)).alloc (.cells #[.slice none 0 0,.map (some w.heap.size)] 120)).rangeAt (w.heap.size+1) 0 [.slice none 0 0,.map (some w.heap.size)]from by
  have:=Bk (w.alloc (.map #[] 0)) [.slice none 0 0,.map (some w.heap.size)] 120;simpa using this)
 have HK0:=Aa (show ((w.alloc (.map #[] 0)).alloc (.cells #[.slice none 0 0,.map (some w.heap.size)] 120)).there (w.heap.size+1) 0 2 from by
  have:=Bu (w.alloc (.map #[] 0)) [.slice none 0 0,.map (some w.heap.size)] 120;simpa using this)
 have HB0:=@Aa (Below w w ((w.alloc (.map #[] 0)).alloc (.cells #[.slice none 0 0,.map (some w.heap.size)] 120))) (((Ap _ _).alloc (An _) _).alloc aK _);have HO0:=Aa (World.ownsRow_nil ((w.alloc (.map #[] 0)).alloc (.cells #[.slice none 0 0,.map (some w.heap.size)] 120)) (w.heap.size+2) 116 1)
 go_loopw [0] (fun l wr=>∃(u:List UInt8) (fuel:Nat) (xs:List PT) (tv:Value),l=u/\u.length<=s.length/\u.length<fuel/\Hid (Gt (s.length+1) s []=Gt fuel u (Ag xs))/\xs.length<=8 /\
   Hid (wr.rangeAt (w.heap.size+1) 0 [tv,.map (some w.heap.size)])/\Hid (wr.there (w.heap.size+1) 0 2)/\Hid (wr.ownsRow (w.heap.size+2) 116 1 tv xs.length (xs.map (·.ptr))) /\
   Hid (Qt wr w.heap.size xs)/\Hid (Qat wr (w.heap.size+2) tv xs)/\Hid (Below w w wr)/\w.heap.size+2<=wr.heap.size) (fun l _=>S5 l)
 case atStart=>exact⟨s,s.length+1,[],.slice none 0 0,rfl,An _,by omega,rfl,by simp,HR0.o,HK0.o,HO0.o,HM0.o,⟨by simp,List.Pairwise.nil⟩,HB0.o,by simp⟩
 case round=>
  clear HM0 HR0 HK0 HB0 HO0;obtain⟨wo,rfl⟩:∃wo:World,wo=wr:=⟨_,rfl⟩
  obtain⟨u,fuel,xs,tv,rfl,hul,hfu,hlin,hx8,hT,hK,hown,hnm,hty,hbr,hzr⟩:=hrel;obtain⟨A,cA,rfl,hrow⟩:=Cd.own hown.o;have Hrow:=Aa hrow;have s0:wo.cell? (w,1,0)=some (.slice A xs.length cA):=by simpa using Ab hT.o 0 rfl
  have s1:wo.cell? (w,1,1)=some (.map (some w.heap.size)):=by simpa using Ab hT.o 1 rfl
  obtain⟨fuel,rfl⟩:∃f,fuel=f+1:=⟨fuel - 1,by omega⟩
  clear hrow;by_cases hu:u=[]
  ·subst hu;have Hlin:=Aa (show Gt (s.length+1) s []=some (Ag xs)by rw[hlin.o];simp[Gt]);have hgood:=Xk.1 Hlin.o;have Htok:=@Aa (∀x∈xs,Ft x.ty) (fun x hx=>hgood.1.1 x.ty (ap (f:=(·.ty)) hx));have HF2:=@Aa (Cl s=if Jl (Ag xs)/\(∀t∈Ag xs,Cg (Ag xs) 9 t=true)then some (Ag xs)else none) (by rw[HF.o,Hlin.o]);have HSC:=@Aa (Tr wo (w,1,0) xs) ⟨w.heap.size+1,A,cA,w.heap.size,rfl,by omega,s0,s1,by have:=Hrow.o;simpa using this,hnm.o,fun x hx=>(hty.o.1 x hx).1,hty.o.2⟩;have Hrow2:=@Aa (Cd wo A xs.length (xs.map (·.ptr))) Hrow.o
   have HSL:=Aa (show Qq w.heap.size wo (w,1,0) xs from⟨w.heap.size+1,A,cA,w.heap.size,rfl,by omega,s0,s1,Hrow2.o,hnm.o,fun x hx=>(hty.o.1 x hx).1,hty.o.2,by omega,An _,fun g o _ eA=>by
    have:=(hown.o.lt g (by rw[eA];rfl)).1;omega,fun x hx=>⟨by have:=(hty.o.1 x hx).2.1.1;omega,fun k hn hk=>by have:=(hty.o.1 x hx).2.1.2 k hn hk;omega⟩⟩)
   clear hgood hlin hT hK hown hnm hty Hrow HF Hlin;have S0:=Aa s0;go_wp2_with fail;clear s0 s1;go_loopw [84] (fun i wr=>∃k:Nat,i=.int .i64 k/\k<=xs.length/\Hid (∀x∈xs.take k,x.ty.sort≠69->∀f∈x.ty.fields,Cc (Ag xs) f.kind)/\Hid (Below wo wo wr)) (fun i _=>xs.length - (intOf i).toNat)
   case atStart=>exact⟨0,rfl,ag _,by intro x hx;simp at hx,Ap _ _⟩
   case round=>
    obtain⟨wp,rfl⟩:∃wp:World,wp=wr:=⟨_,rfl⟩
    obtain⟨k,rfl,hk,hin,hbp⟩:=hrel;have k1:(0:Int)<=(k:Int):=aH;have hzp:=hbp.o.size;by_cases hkl:k<xs.length
    ·have k2:(k:Int)<(xs.length:Int):=aH;obtain⟨bA,oA,rfl,hbA,cl⟩:=(Hrow2.o.below hbp.o).at_ hkl;rw[List.getElem_map]at cl;have Hts:=Aa (Cn xs k hkl);have Hmem:=Aa (ae hkl);generalize xs[k]=x at cl Hts Hmem;unfold PT.ptr at cl;have Hxt:=Aa (Htok.o x Hmem.o);obtain⟨hyb,_,y0,y1,y2,y3,A7,c7,hyf,hl8,hrow7⟩:=(HSC.o.tys x Hmem.o).below hbp.o;rw[hyf]at y2;have Hrow7:=Aa hrow7;clear hrow7 hyf y1 y3;go_wp2_with fail;go_loopw [93] (fun i wr=>∃j:Nat,i=.int .i64 j/\j<=x.ty.fields.length/\Hid (x.ty.sort≠69->∀f∈x.ty.fields.take j,Cc (Ag xs) f.kind)/\Hid (Below wp wp wr)) (fun i _=>x.ty.fields.length - (intOf i).toNat)
     case atStart=>exact⟨0,rfl,ag _,by intro _ f hf;simp at hf,Ap _ _⟩
     case round=>
      obtain⟨j,rfl,hj,hin2,hbq⟩:=hrel;have j1:(0:Int)<=(j:Int):=aH;have hzq:=hbq.o.size;have x0:=(hbq.o.cell (p:=⟨x.blk,0,none⟩) hyb).trans y0;have hxw:x.blk<wr.heap.size:=aH;have hxn:¬(x.blk=wr.heap.size):=aH;have Hbw:=@Aa (Below w w wr) ((hbr.o.trans (hbp.o.mono aH)).trans (hbq.o.mono aH));have Hbo2:=@Aa (Below wo wo wr) (hbp.o.trans (hbq.o.mono hzp));by_cases hjl:j<x.ty.fields.length
      ·have j2:(j:Int)<(x.ty.fields.length:Int):=aH;obtain⟨b8,o8,rfl,hb8,hrg⟩:=Sp.range (Hrow7.o.below hbq.o) hjl;have Hts2:=Aa (Cn x.ty.fields j hjl);have Hfm:=Aa (ae hjl);have Hrg:=@Aa (wr.rangeAt b8 (o8+j*6) [.int .i64 (x.ty.fields[j].tag:Int),.string ⟨x.ty.fields[j].name.toArray⟩,.string ⟨x.ty.fields[j].kind.signs.toArray⟩,.string ⟨x.ty.fields[j].kind.base.toArray⟩,.string ⟨x.ty.fields[j].kind.name.toArray⟩,.string ⟨x.ty.fields[j].given.toArray⟩]) hrg;clear hrg;generalize x.ty.fields[j]=f at Hts2 Hfm Hrg;by_cases h69:x.ty.sort=69
       ·have t69:((x.ty.sort.toNat:Int) != 69)=false:=Nz (d:=69) h69;have Hin2:=@Aa (x.ty.sort≠69->∀f∈x.ty.fields.take (j+1),Cc (Ag xs) f.kind) (fun h=>absurd h69 h);clear h69;go_wp2_with ((with_reducible refine wpList_load_mid (op:=⟨_,.load 122 _,_,_,_,none⟩) rfl 122 _ rfl b8 (o8+j*6) ?_ _ _ Hrg.o underlying122 ?_ ?_ ?_);rfl;rfl;kernel_rfl)
        go_roundw
        case rel=>exact⟨j+1,by go_num,by omega,Hin2.o,hbq.o.alloc hzq _⟩
        case measure=>simp[intOf];omega
       have t69:((x.ty.sort.toNat:Int) != 69)=true:=Rl (d:=69) h69;have Hkd:=Aa ((Hxt.o.2.2.1.1 f Hfm.o).2.2.2.2 h69).1;have Hhas:=Aa (fun W (h:Below wo wo W)=>Qfe _ xs f.kind W (HSC.o.below h).map (ad (Kr Hkd.o) aJ));unfold Et at Hhas;by_cases hrf:Cc (Ag xs) f.kind
       ·have Hin2:=Aa (show x.ty.sort≠69->∀f∈x.ty.fields.take (j+1),Cc (Ag xs) f.kind from fun h g hg=>by
         rw[Hts2.o]at hg;rcases af.1 hg with hg|hg
         ·exact hin2.o h g hg
         simp at hg;subst hg;exact hrf)
        rw[aD hrf]at Hhas;clear h69 hrf;go_wp2_with ((with_reducible refine wpList_load_mid (op:=⟨_,.load 122 _,_,_,_,none⟩) rfl 122 _ rfl b8 (o8+j*6) ?_ _ _ Hrg.o underlying122 ?_ ?_ ?_);rfl;rfl;kernel_rfl)
        refine(Hhas.o _ (Hbo2.o.alloc aH _)).mono ?_;rintro e w9 ⟨rfl,hb9⟩;have Hb9:=@Aa (Below wp wp w9) ((hbq.o.alloc hzq _).trans (hb9.mono aM));clear hb9;go_wp2_with fail;go_roundw
        case rel=>exact⟨j+1,by go_num,by omega,Hin2.o,Hb9.o⟩
        case measure=>simp[intOf];omega
       have Hend:=Aa (show Cl s=none by
        rw[HF2.o,if_neg];rintro⟨h,_⟩;exact hrf (h x.ty (ap (f:=(·.ty)) Hmem.o) h69 f Hfm.o))
       rw[aC hrf]at Hhas;clear h69 hrf;go_wp2_with ((with_reducible refine wpList_load_mid (op:=⟨_,.load 122 _,_,_,_,none⟩) rfl 122 _ rfl b8 (o8+j*6) ?_ _ _ Hrg.o underlying122 ?_ ?_ ?_);rfl;rfl;kernel_rfl)
       refine(Hhas.o _ (Hbo2.o.alloc aH _)).mono ?_;rintro e w9 ⟨rfl,hb9⟩;have Hb9:=@Aa (Below w w w9) ((Hbw.o.alloc Hbw.o.size _).trans (hb9.mono aM));clear hb9;go_wp2_with fail;go_ret2;exact Jy.no Hend.o rfl Hb9.o
      ·have j2:¬(j:Int)<(x.ty.fields.length:Int):=aH
       have Hin3:=Aa (show ∀y∈xs.take (k+1),y.ty.sort≠69->∀f∈y.ty.fields,Cc (Ag xs) f.kind from fun y hy=>by
        rw[Hts.o]at hy;rcases af.1 hy with hy|hy
        ·exact hin.o y hy
        simp at hy;subst hy;intro h f hf;exact hin2.o h f dZ)
       go_wp2_with fail;go_roundw
       case rel=>exact⟨k+1,by go_num,by omega,Hin3.o,Hbo2.o⟩
       case measure=>simp[intOf];omega
    ·have k2:¬(k:Int)<(xs.length:Int):=aH
     have Hkinds:=Aa (show Jl (Ag xs)from fun t ht h f hf=>by
      obtain⟨x,hx,rfl⟩:=ax.1 ht;exact hin.o x (by rw[au aH];exact hx) h f hf)
     have s9:=(hbp.o.cell (p:=⟨w.heap.size+1,0,none⟩) (show w.heap.size+1<wo.heap.size by omega)).trans S0.o;have HSP:=Aa (HSC.o.below hbp.o);have HrowP:=Aa (Hrow2.o.below hbp.o);have HbP:=@Aa (Below w w wp) (hbr.o.trans (hbp.o.mono aH));go_wp2_with fail;clear s9;go_loopw [116] (fun i wr=>∃m:Nat,i=.int .i64 m/\m<=xs.length/\Hid (∀x∈xs.take m,Cg (Ag xs) 9 x.ty=true)/\Hid (Below wp wp wr)) (fun i _=>xs.length - (intOf i).toNat)
     case atStart=>exact⟨0,rfl,ag _,by intro x hx;simp at hx,Ap _ _⟩
     case round=>
      obtain⟨m,rfl,hm,hin4,hbm⟩:=hrel;have m1:(0:Int)<=(m:Int):=aH;have HbM:=@Aa (Below w w wr) (HbP.o.trans (hbm.o.mono HbP.o.size));by_cases hml:m<xs.length
      ·have m2:(m:Int)<(xs.length:Int):=aH;obtain⟨bA,oA,rfl,hbA,cl⟩:=(HrowP.o.below hbm.o).at_ hml;rw[List.getElem_map]at cl;have Hts:=Aa (Cn xs m hml);have Hmem:=Aa (ae hml);generalize xs[m]=x at cl Hts Hmem;have Hends:=Aa (Qjp _ xs x wr (HSP.o.below hbm.o).map (HSP.o.below hbm.o).tys Htok.o Hkinds.o Hmem.o);unfold PT.ptr at cl Hends;cases hee:Cg (Ag xs) 9 x.ty with
       |true=>
        rw[hee]at Hends
        have Hin5:=Aa (show ∀y∈xs.take (m+1),Cg (Ag xs) 9 y.ty=true from fun y hy=>by
         rw[Hts.o]at hy;rcases af.1 hy with hy|hy
         ·exact hin4.o y hy
         simp at hy;subst hy;exact hee)
        clear hee;go_wp2_with fail;refine Hends.o.mono ?_;rintro e w9 ⟨rfl,hb9⟩;have Hb9:=Aa (hbm.o.trans (hb9.mono hbm.o.size));clear hb9;go_wp2_with fail;go_roundw
        case rel=>exact⟨m+1,by go_num,by omega,Hin5.o,Hb9.o⟩
        case measure=>simp[intOf];omega
       |false=>
        rw[hee]at Hends
        have Hend:=Aa (show Cl s=none by
         rw[HF2.o,if_neg];rintro⟨_,h⟩;have:=h x.ty (ap (f:=(·.ty)) Hmem.o);rw[hee]at this;cases this)
        clear hee;go_wp2_with fail;refine Hends.o.mono ?_;rintro e w9 ⟨rfl,hb9⟩;have Hb9:=Aa (HbM.o.trans (hb9.mono HbM.o.size));clear hb9;go_wp2_with fail;go_ret2;exact Jy.no Hend.o rfl Hb9.o
      ·have m2:¬(m:Int)<(xs.length:Int):=aH
       have Hfin:=Aa (show Cl s=some (Ag xs)by
        rw[HF2.o,if_pos];refine⟨Hkinds.o,fun t ht=>?_⟩;obtain⟨x,hx,rfl⟩:=ax.1 ht;exact hin4.o x (by rw[au aH];exact hx))
       go_wp2_with fail;go_ret2;exact Jy.yes Hfin.o rfl ((HSL.o.below hbp.o).below hbm.o) HbM.o
  ·have hu1:u.isEmpty=false:=fm;have hu2:(!u.isEmpty)=true:=fm;have hu3:(u == [])=false:=fm;have hu4:(u != [])=true:=fm
   have Hlin:=Aa (show Gt (s.length+1) s []=(if (Dp 10 u).2.2=false\/(Ag xs).length=8 then none else match Fi (Dp 10 u).1 with
    |none=>none
    |some t=>if (Ag xs).any (fun v=>decide (v.name=t.name))=true then none else Gt fuel (Dp 10 u).2.1 (Ag xs++[t]))by rw[hlin.o,Gt,if_neg hu];rfl)
   have Hcut:=Aa (fun W=>Tw u 10 W aH);have hcl:=M7 10 u;have hsh:(Dp 10 u).2.2=true->(Dp 10 u).2.1.length<u.length:=fun h=>by
    rcases Gk 10 u with⟨_,e⟩|⟨p,t,e1,_,e⟩
    ·rw[e]at h;cases h
    rw[e];show t.length<u.length;rw[e1];simp;omega
   have Hsh:=Aa hsh;generalize Dp 10 u=q at *;obtain⟨ln,rest,told⟩:=q;simp only at hcl Hlin Hsh;have hcl1:=hcl.1;have hcl2:=hcl.2;clear hcl hu hlin hsh;go_wp2_with fail;refine(Hcut.o _).mono ?_;rintro e w1 ⟨rfl,k1,rfl⟩;unfold Qfs;cases told with
   |false=>
    have Hend:=Aa (show Cl s=none by rw[HF.o,Hlin.o];simp);go_wp2_with fail;go_ret2;exact Jy.no Hend.o rfl (below_drewN hbr.o _)
   |true=>
    have hrl:=Hsh.o aK;rcases Nat.eq_or_lt_of_le hx8 with h8|h8
    ·have q1:((xs.length:Int) == 8)=true:=by simp[h8]
     have Hend:=Aa (show Cl s=none by rw[HF.o,Hlin.o];simp[Ag,h8]);clear h8;go_wp2_with fail;go_ret2;exact Jy.no Hend.o rfl (below_drewN hbr.o _)
    have q1:((xs.length:Int) == 8)=false:=cw
    have Hlin2:=Aa (show Gt (s.length+1) s []=(match Fi ln with
     |none=>none
     |some t=>if (Ag xs).any (fun v=>decide (v.name=t.name))=true then none else Gt fuel rest (Ag xs++[t]))by rw[Hlin.o,if_neg (by simp[Ag];omega)])
    have Htype:=Aa (fun W=>Qdb ln W aH);have Htok:=Aa (fun t (h:Fi ln=some t)=>(Gm.1 h).1);clear Hlin;generalize Fi ln=ot at Hlin2 Htype Htok;go_wp2_with fail;refine(Htype.o _).mono ?_;rintro e w2 ⟨hcase,hb2⟩;have hbo:Below wo wo w2:=(below_drewN (Ap _ _) k1).trans (by simpa using hb2);have Hbo:=Aa hbo;cases ot with
    |none=>
     obtain⟨pp,rfl⟩:=hcase;have Hend:=Aa (show Cl s=none by rw[HF.o,Hlin2.o]);go_wp2_with fail;refine Bq [45,46,47,48,49,50,51,52,53,54,55,56,57,58] aL aL aL (fun u=>by dsimp only[Bv,Bs,List.set,am,Nat.reduceAdd])
      (fun i v W=>match i with|0=>v=.bool false|1=>v=.bool true|2=>v=.bool true|13=>v=.bool true|_=>True) (fun L U W=>∃q,W=(w2).drewN q) (fun _ _=>True) (fun _ _ _ _ _ h=>h) ⟨1,rfl⟩ ?_ ?_
     ·repeat (first|exact Ak.nil|(refine Ak.cons ?_ ?_;rotate_left))
      all_goals
       rintro L U W hL hpre ⟨q,rfl⟩ hun hdep K hK;clear hun hdep;first|(simp[Region.binds]at hpre;done)|simp[Region.binds]at hpre|clear hpre
       go_simp;first|exact hK _ _ _ rfl Ac ⟨q,rfl⟩ rfl|exact hK _ _ _ rfl Ac ⟨q,rfl⟩ aI|exact hK undef _ _ Ac Ac ⟨q,rfl⟩ aI|exact hK _ _ _ Ac Ac ⟨q,rfl⟩ rfl|exact hK _ _ _ Ac Ac ⟨q,rfl⟩ aI
     rintro L U W hL hφ ⟨q,rfl⟩;have e13:U 13=.bool true:=hφ 13 aJ;simp only[e13];clear hφ hL;go_wp2_with fail;go_ret2;exact lf
    |some t=>
     obtain⟨x,hxt,rfl,hxb,hxty,hxf⟩:=hcase;subst hxt;have hxb2:wo.heap.size<=x.blk:=by simpa using hxb
     have hxz:x.blk<w2.heap.size:=hxty.1;have y1:w2.cell? (x.blk,1)=x.ty.name:=hxty.2.2.2.1;have u0:=(hbo.cell (p:=⟨w.heap.size+1,0,none⟩) (show w.heap.size+1<wo.heap.size by omega)).trans s0;have u1:=(hbo.cell (p:=⟨w.heap.size+1,1,none⟩) (show w.heap.size+1<wo.heap.size by omega)).trans s1;have Hnm2:=Aa (D5.below hnm.o hbo);have Hxty:=Aa hxty;have Hxf:=Aa hxf;have Htk:=Aa (Htok.o x.ty rfl);have hnl:x.ty.name.length<=3:=(Dz.1 Htk.o.2.1).2.1;have hlook:∀q,(Instr.lookup 118 (.map (some w.heap.size)) x.ty.name false).run prog (w2.drewN q)=.ok (Qbb (Fh xs x.ty.name)) (w2.drewN q):=fun q=>Gj (D5.below Hnm2.o (below_drewN (Ap _ _) q)) x.ty.name aH;have hz2:wo.heap.size<=w2.heap.size:=hbo.size;clear hbo s0 s1 hxty hxf;unfold PT.ptr;cases hfp:Fh xs x.ty.name with
     |some z=>
      have Hend:=Aa (show Cl s=none by
       rw[HF.o,Hlin2.o];have:(Ag xs).any (fun v=>decide (v.name=x.ty.name))=true:=by
        cases hh:(Ag xs).any (fun v=>decide (v.name=x.ty.name))with
        |true=>rfl
        |false=>rw[Qap.2 hh]at hfp;cases hfp
       simp[this])
      rw[hfp]at hlook;unfold Qbb PT.ptr at hlook;clear hfp;go_wp2_with fail;refine Bq [45,46,47,48,49,50,51,52,53,54,55,56,57,58] aL aL aL (fun u=>by dsimp only[Bv,Bs,List.set,am,Nat.reduceAdd])
       (fun i v W=>match i with|0=>v=.bool true|1=>v=.bool false|2=>v=.bool false|3=>v=(w,1,0)|4=>v=(w,1,0)|5=>v=(w,1,1)|6=>v=.map (some w.heap.size)|7=>v=x.blk|8=>v=x.blk|9=>v=(x.blk,1)|10=>v=x.ty.name|11=>v=z.blk|12=>v=.bool true|13=>v=.bool true|_=>True) (fun L U W=>∃q,W=(w2).drewN q) (fun _ _=>True) (fun _ _ _ _ _ h=>h) ⟨1,rfl⟩ ?_ ?_
      ·exact iT
      rintro L U W hL hφ ⟨q,rfl⟩;have e13:U 13=.bool true:=hφ 13 aJ;simp only[e13];clear hφ hL;go_wp2_with fail;go_ret2;exact lf
     |none=>
      have Hany:=Aa (Qap.1 hfp);have Hfp:=Aa hfp;rw[hfp]at hlook;unfold Qbb at hlook;clear hfp
      have Hlin3:=Aa (show Gt (s.length+1) s []=Gt fuel rest (Ag (xs++[x]))by
       rw[Hlin2.o];show (if _ then _ else _)=_;rw[if_neg (by rw[Hany.o];decide)];simp[Ag])
      go_wp2_with fail;refine Bq [45,46,47,48,49,50,51,52,53,54,55,56,57,58] aL aL aL (fun u=>by dsimp only[Bv,Bs,List.set,am,Nat.reduceAdd])
       (fun i v W=>match i with|0=>v=.bool true|1=>v=.bool false|2=>v=.bool false|3=>v=(w,1,0)|4=>v=(w,1,0)|5=>v=(w,1,1)|6=>v=.map (some w.heap.size)|7=>v=x.blk|8=>v=x.blk|9=>v=(x.blk,1)|10=>v=x.ty.name|11=>v=.pointer none|12=>v=.bool false|13=>v=.bool false|_=>True) (fun L U W=>∃q,W=(w2).drewN q) (fun _ _=>True) (fun _ _ _ _ _ h=>h) ⟨1,rfl⟩ ?_ ?_
      ·exact iT
      rintro L U W hL hφ ⟨q,rfl⟩;have e13:U 13=.bool false:=hφ 13 aJ;simp only[e13];clear hφ hL;obtain⟨w3,hw3⟩:∃w3,w3=w2.drewN q:=⟨_,rfl⟩
      rw[<-hw3];have hb3:Below wo wo w3:=by rw[hw3];exact below_drewN Hbo.o _
      have hb23:Below w2 w2 w3:=by rw[hw3];exact below_drewN (Ap _ _) _
      have Hx3:=Aa (Hxty.o.below hb23);have hown3:=Db hown.o hb3;have hT3:=Ah hT.o (show w.heap.size+1<wo.heap.size by omega) hb3;have hK3:=Aj hK.o (show w.heap.size+1<wo.heap.size by omega) hb3;have hz3:wo.heap.size<=w3.heap.size:=hb3.size;have v0:w3.cell? (w,1,0)=some (.slice A xs.length cA):=by simpa using Ab hT3 0 rfl
      have Hb3:=Aa hb3;have Hown3:=Aa hown3;have HT3:=Aa hT3;have HK3:=Aa hK3;have Hnm3:=Aa (D5.below Hnm2.o hb23);have Hb23:=Aa hb23;clear hlook hb3 hown3 hT3 hK3 hw3 hb23 u0 u1 y1;go_wp2_with (at_builtin;refine Fk _ rfl _ _ 117 rfl (w.heap.size+2) 116 (.pointer none) 8 underlying117 Tryz.infoPt rfl w3 x.blk rfl rfl (.slice A xs.length cA) xs.length (xs.map (·.ptr)) rfl rfl Hown3.o aU aH aH ?_;intro v5 w5 hown5 hg5 hwh;have hb5:Below (w.heap.size+2) w3 w5:=(Ap _ _).grown hg5 aH (fun k hk=>(Hown3.o.lt k hk).1);have HT5:=Aa (Ah HT3.o (show w.heap.size+1<w.heap.size+2 by omega) hb5);have HK5:=Aa (Aj HK3.o (show w.heap.size+1<w.heap.size+2 by omega) hb5);have Hnm5:=Aa (D5.belowAt Hnm3.o (show w.heap.size<w.heap.size+2 by omega) hb5);have Hty5:=Aa (Qat.push hty.o Hb3.o hown.o Hx3.o hxb2 (fun k hk=>(by have:=Hxf.o k hk;simpa using this)) aH hg5 hwh);obtain⟨A5,n5,c5,e5⟩:=Ek hown5;subst e5;have Hown5:=Aa hown5;have Hb5:=Aa hb5;have p0:w5.cell? (w,1,0)=some (.slice A xs.length cA):=(by simpa using Ab HT5.o 0 rfl);have f0:w5.frozen? (w,1,0)=false:=(by simpa using(HK5.o 0 aJ).2);have hz5:w3.heap.size<=w5.heap.size:=hg5.size;clear hown5 hg5 hwh hb5 v0)
      obtain⟨w6,hw6⟩:∃w6,w6=w5.setCell ⟨w.heap.size+1,0,none⟩ (.slice A5 n5 c5):=⟨_,rfl⟩
      rw[<-hw6];have hg6:w5.grownBy w6 (some (w.heap.size+1)):=by rw[hw6];exact Jj _ _ _
      have hT6:w6.rangeAt (w.heap.size+1) 0 [.slice A5 n5 c5,.map (some w.heap.size)]:=by rw[hw6];exact Cr [] [.slice A xs.length cA] [.map (some w.heap.size)] [.slice A5 n5 c5] HT5.o rfl
      have hK6:w6.there (w.heap.size+1) 0 2:=by rw[hw6];exact ai HK5.o (w.heap.size+1) 0 [.slice A5 n5 c5]
      have Hown6:=Aa (Hown5.o.kept hg6 (.inr (fun e=>by have:=(Hown5.o.lt _ e).1;omega)));have Hnm6:=Aa (D5.kept Hnm5.o hg6 aK);have Hty6:=Aa (Hty5.o.far hg6 aH);have Hb6:=@Aa (Below w w w6) (((hbr.o.trans (Hb3.o.mono aH)).trans (Hb5.o.mono aH)).trans (by rw[hw6];exact(Ap _ _).setCell aK _));have hz6:w.heap.size+2<=w6.heap.size:=ad aH hg6.size;have m1:w6.cell? (w,1,1)=some (.map (some w.heap.size)):=by simpa using Ab hT6 1 rfl
      have n1:w6.cell? (x.blk,1)=x.ty.name:=(Hty6.o.1 x aK).1.2.2.2.1;have HT6:=Aa hT6;have HK6:=Aa hK6;clear hw6 hg6 hT6 hK6 p0 f0;refine Bq [69,70,71,72,73,74,75,76,77,999] aL aL aL (fun u=>by dsimp only[Bv,Bs,List.set,am,Nat.reduceAdd])
       (fun i v W=>match i with|0=>v=(w,1,0)|1=>v=(w,1,0)|2=>v=(w,1,1)|3=>v=.map (some w.heap.size)|4=>v=x.blk|5=>v=x.blk|6=>v=(x.blk,1)|7=>v=x.ty.name|8=>v=x.blk|_=>True) (fun L U W=>∃q,(L 9=false->W=w6.drewN q)/\(L 9=true->(w6.drewN q).grownBy W (some w.heap.size)/\Qt W w.heap.size (xs++[x]))) (fun _ _=>True) (fun _ _ _ _ _ h=>h) ⟨1,fun _=>rfl,by simp⟩ ?_ ?_
      ·repeat (first|exact Ak.nil|(refine Ak.cons ?_ ?_;rotate_left))
       all_goals
        rintro L U W hL hpre ⟨q,hq1,hq2⟩ hun hdep K hK;have Hdep:=Aa hdep;have Hq2:=Aa hq2;clear hun hdep hq2;first|(simp[Region.binds]at hpre;done)|simp[Region.binds]at hpre|clear hpre
       ·obtain rfl:=hq1 (Az Hdep.o 9 3 rfl (Az Hdep.o 3 2 rfl (Az Hdep.o 2 1 rfl (Az Hdep.o 1 0 rfl hL))));exact lh
       ·obtain rfl:=hq1 (Az Hdep.o 9 3 rfl (Az Hdep.o 3 2 rfl (Az Hdep.o 2 1 rfl hL)));exact lh
       ·obtain rfl:=hq1 (Az Hdep.o 9 3 rfl (Az Hdep.o 3 2 rfl hL));exact lh
       ·obtain rfl:=hq1 (Az Hdep.o 9 3 rfl hL);exact lh
       ·obtain rfl:=hq1 (Az Hdep.o 9 7 rfl (Az Hdep.o 7 6 rfl (Az Hdep.o 6 5 rfl (Az Hdep.o 5 4 rfl hL))));exact lh
       ·obtain rfl:=hq1 (Az Hdep.o 9 7 rfl (Az Hdep.o 7 6 rfl (Az Hdep.o 6 5 rfl hL)));exact lh
       ·obtain rfl:=hq1 (Az Hdep.o 9 7 rfl (Az Hdep.o 7 6 rfl hL));exact lh
       ·obtain rfl:=hq1 (Az Hdep.o 9 7 rfl hL);exact lh
       ·obtain rfl:=hq1 (Az Hdep.o 9 8 rfl hL);exact lh
       ·obtain rfl:=hq1 hL;obtain⟨w7,hrun,r1,r2⟩:=D5.store (D5.below Hnm6.o (below_drewN (Ap _ _) q)) Tryz.keyStr underlying118 aU x.blk (Qh2 (n:=x.ty.name) aH);have hn7:Qt w7 w.heap.size (xs++[x]):=by
         unfold Qt;rw[ah];exact r1.of_eq (fun l hl=>Qe5 Hfp.o l hl)
        have R2:=Aa r2;have Hn7:=Aa hn7;clear r1 r2 hn7;go_simp;exact hK undef _ _ Ac Ac ⟨q,fun h=>by simp at h,fun _=>⟨R2.o,Hn7.o⟩⟩ aI
      rintro L U W hL hφ ⟨q,_,hq2⟩;obtain⟨hg7,hn7⟩:=hq2 (hL 9 aJ);have hzq:w6.heap.size<=W.heap.size:=by have:=hg7.size;simpa using this
      have hb7:Below w w W:=(below_drewN Hb6.o q).grown hg7 aM (fun k hk=>by injection hk with hk;omega);have HT7:=Aa (Cz (Ah HT6.o (show w.heap.size+1<w6.heap.size by omega) (below_drewN (Ap _ _) q)) hg7 aK);have HK7:=Aa (Ey (Aj HK6.o (show w.heap.size+1<w6.heap.size by omega) (below_drewN (Ap _ _) q)) hg7 aM aK);have Hown7:=Aa ((Db Hown6.o (below_drewN (Ap _ _) q)).kept hg7 (.inr (fun e=>by have:=(Hown6.o.lt _ e).1;omega)));have Hty7:=Aa ((Hty6.o.below (below_drewN (Ap _ _) q)).far hg7 aH);have Hn7:=Aa hn7;have Hb7:=Aa hb7;clear hL hφ hq2 hg7 hn7 hb7 m1 n1;go_wp2_with fail;go_roundw
      case rel=>exact⟨rest,fuel,xs++[x],.slice A5 n5 c5,rfl,by omega,by omega,Hlin3.o,by simp;omega,HT7.o,HK7.o,by rw[ah,az];exact Hown7.o,Hn7.o,Hty7.o,Hb7.o,by omega⟩
      case measure=>rw[Mx,Mx];omega
theorem Z8(s:List UInt8)(w:World)(hs:s.length<=4000000):
  Calls prog 64 #[s] w (Jy (Cl s) w):=by
 by_cases h:400<s.length
 ·exact Qcf s w hs h
 exact Qgw s w aH
end
end Go.Proofs.YtbdibdghphdcdaaGreatDoor
