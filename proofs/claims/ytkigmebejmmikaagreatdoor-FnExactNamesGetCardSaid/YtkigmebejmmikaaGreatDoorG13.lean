/- Texts joined. Conditions: as each theorem names them. -/
import Derived.Maps.AppendAt
import Derived.Test.YtkigmebejmmikaaGreatDoorG06
set_option maxRecDepth 100000
set_option maxHeartbeats 32000000
set_option linter.unusedVariables false
set_option linter.unusedSimpArgs false
namespace Go.Proofs.YtkigmebejmmikaaGreatDoor
open Go.RowKit Go.Proofs.Tryz
section
attribute [local go_sem] Qjy Qiu Qil Qgp ByteArray.mk_append_mk
theorem Qbc(c:UInt8)(r nm rest:List UInt8)(w:World)(hs:r.length<=3999999)(hc:Dj c)(h:Dc 61 r=(nm,rest,true))(hn:Bb nm=true)(hr:rest≠[]):
  Calls prog 90 #[.string ⟨(c::r).toArray⟩] w (Ex (Ej (c::r)) w):=by
 have HF:=Aa (Yh hc h hn hr)
 have Hc:=Aa (fun W=>(show Calls prog 119 #[.string ⟨#[82,85,69]⟩,.string ⟨#[c]⟩] W fun e w'=>e=.returned (.bool true)/\W=w' from by
  have:=Nc [82,85,69] c W;rw[Tc,aA hc]at this;exact this))
 have Hcut:=Aa (fun W=>Qn r 61 W aE);have hcl:=Kj 61 r;have Hcut2:=Aa h;rw[h]at Hcut hcl;simp only at hcl;have hcl1:=hcl.1;have hcl2:=hcl.2;have Hname:=Aa (fun W=>J8 nm W aE);rw[hn]at Hname;have Hsp:=Aa (fun W=>Re rest 44 W aE);have hne:=Ee 44 rest;have Hpl:=Aa (Al 44 rest);have Hln:=Aa (Gn 44 rest);generalize Ai 44 rest=ps at HF Hsp hne Hpl Hln;have Hcs:=Aa hc;have hpsl:ps.length<=4000000:=by have:=Hln.o;omega
 have hr1:rest.isEmpty=false:=eH;have hr2:(rest == [])=false:=eH;clear h hn hr hc hcl;go_enter func90,ntmps90;go_wp2_with fail;refine(Hc.o _).mono ?_;rintro e w' ⟨rfl,rfl⟩;go_wp2_with fail;refine(Hcut.o _).mono ?_;rintro e w1 ⟨rfl,k1,rfl⟩;unfold Y6;go_wp2_with fail;refine(Hname.o _).mono ?_;rintro e w2 ⟨rfl,hb2⟩;have Hb2:=@Aa (Below w w w2) ((below_drewN (Ay _ _) k1).trans (by simpa using hb2));have hz2:=Hb2.o.size;clear hb2;go_wp2_with fail;refine(Hsp.o _).mono ?_;rintro e w3 ⟨v,rfl,ho,hb3⟩;obtain⟨g,cg,rfl,hg1,hg2,hcells⟩:=Mw ho hne;have hg1':w2.heap.size+1<=g:=by simpa using hg1
 have hz3:w2.heap.size<w3.heap.size:=aE;have HT0:=@Aa (w3.rangeAt w2 0 [.int .u8 (c.toNat:Int),nm,.slice none 0 0,.string ⟨(c::r).toArray⟩]) (Av (Ch w2 _ _) aI hb3);have HK0:=@Aa (w3.there w2 0 4) (Bt (D2 w2 [.int .u8 (c.toNat:Int),nm,.slice none 0 0,.string ⟨(c::r).toArray⟩] _) aI hb3);have HB0:=@Aa (Mu w3 w2.heap.size) ((Mu.new w2 _ _).belowAt aI hb3);have Hb3:=@Aa (Below w w w3) ((Hb2.o.alloc Hb2.o.size _).trans (hb3.mono aM));have Hcells:=@Aa (∀j (hj:j<ps.length),w3.cell? ⟨g,j,none⟩=some (.string ⟨ps[j].toArray⟩)) hcells;have Hown0:=Aa (World.ownsRow_nil w3 w3 85 6);clear ho hb3 hcells hg1 hne;go_wp2_with fail
 go_loopw [53] (fun i wr=>∃(k:Nat) (acc:List Fd) (fv:Value),i=.int .i64 k/\k<=ps.length/\acc.length<=8/\Hid (Ej (c::r)=Qhl c nm (E5 c (ps.drop k) acc)) /\
   Hid (wr.ownsRow w3 85 6 fv acc.length (acc.flatMap Qx))/\Hid (Below w w wr)/\w3.heap.size<=wr.heap.size /\
   Hid (∀j (hj:j<ps.length),wr.cell? ⟨g,j,none⟩=some (.string ⟨ps[j].toArray⟩)) /\
   Hid (wr.rangeAt w2 0 [.int .u8 (c.toNat:Int),nm,fv,.string ⟨(c::r).toArray⟩])/\Hid (wr.there w2 0 4)/\Hid (Mu wr w2.heap.size)) (fun i _=>ps.length - (intOf i).toNat)
 case atStart=>exact⟨0,[],.slice none 0 0,rfl,af _,by simp,HF.o,Hown0.o,Hb3.o,As _,Hcells.o,HT0.o,HK0.o,HB0.o⟩
 case round=>
  obtain⟨wo,rfl⟩:∃wo:World,wo=wr:=⟨_,rfl⟩
  obtain⟨k,acc,fv,rfl,hk,ha8,hft,hown,hbr,hzr,hpr,hT,hK,hB⟩:=hrel;have i1:(0:Int)<=(k:Int):=aE;obtain⟨A,cA,rfl,hrow⟩:=B8.ownK hown.o aW;have Hrow:=Aa hrow;have t0:wo.cell? (w2,0)=some (.int .u8 (c.toNat:Int)):=by simpa using Ab hT.o 0 rfl
  have t2:wo.cell? (w2,2)=some (.slice A acc.length cA):=by simpa using Ab hT.o 2 rfl
  clear hrow;by_cases hlt:k<ps.length
  ·have i2:(k:Int)<(ps.length:Int):=aE;have cell:=hpr.o k hlt;have hft2:=Aa ((X7 (c:=c) (acc:=acc) hlt) ▸ hft.o);have hplk:=Hpl.o _ (ad hlt);generalize ps[k]=p at cell hft2 hplk;have Hread:=Aa (fun W=>Vo c Hcs.o p W aE);generalize Gq c p=o at hft2 Hread;go_wp2_with fail;refine(Hread.o _).mono ?_;rintro e w4 ⟨hcase,hb4⟩;have Hb4:=Aa (hbr.o.trans (hb4.mono hbr.o.size));cases o with
   |none=>
    obtain⟨n,a1,a2,a3,a4,a5,rfl⟩:=hcase;have Hend:=@Aa (Ej (c::r)=none) hft2.o;go_wp2_with fail;go_ret2;exact Ex.no Hend.o rfl (Hb4.o.alloc Hb4.o.size _)
   |some f=>
    have hcase':e=.returned (.tuple #[.agg #[(f.tag:Int),f.name,f.kind.signs,f.kind.base,f.kind.name,f.given],.bool true]):=hcase;subst hcase';clear hcase;have s0:=(hb4.cell (p:=⟨w2.heap.size,0,none⟩) (show w2.heap.size<wo.heap.size by omega)).trans t0;have s2:=(hb4.cell (p:=⟨w2.heap.size,2,none⟩) (show w2.heap.size<wo.heap.size by omega)).trans t2;have hz4:wo.heap.size<=w4.heap.size:=hb4.size;have hn4:¬(w2.heap.size=w4.heap.size):=aE;have hn5:w2.heap.size<w4.heap.size:=aE;have Hb4r:=Aa hb4;clear t0 t2 hb4;have hft3:=@Aa (Ej (c::r)=Qhl c nm (if acc.length=8\/Fy acc f=false then none else E5 c (ps.drop (k+1)) (acc++[f]))) hft2.o;clear hft2;rcases Nat.eq_or_lt_of_le ha8 with h8|h8
    ·have q1:((acc.length:Int) == 8)=true:=by simp[h8]
     have Hend:=Aa (hft3.o.trans (by rw[if_pos (.inl h8)]));clear h8;go_wp2_with fail;go_ret2;exact Ex.no Hend.o rfl (Hb4.o.alloc Hb4.o.size _)
    have q1:((acc.length:Int) == 8)=false:=bK;go_wp2_with fail;have f0:(w4.alloc (.cells #[(f.tag:Int),f.name,f.kind.signs,f.kind.base,f.kind.name,f.given] 85)).cell? (w4,0)=(f.tag:Int):=aI;have f1:(w4.alloc (.cells #[(f.tag:Int),f.name,f.kind.signs,f.kind.base,f.kind.name,f.given] 85)).cell? (w4,1)=f.name:=aI;have HR0:=Aa (Ch w4 [(f.tag:Int),f.name,f.kind.signs,f.kind.base,f.kind.name,f.given] 85);go_loopw [81] (fun jj wq=>∃j:Nat,jj=.int .i64 j/\j<=acc.length/\Hid (∀x∈acc.take j,x.name≠f.name/\x.tag<f.tag)/\Hid (Below w4 w4 wq)/\w4.heap.size<wq.heap.size/\Hid (wq.rangeAt w4 0 [(f.tag:Int),f.name,f.kind.signs,f.kind.base,f.kind.name,f.given])) (fun jj _=>acc.length - (intOf jj).toNat)
    case atStart=>exact⟨0,rfl,af _,by intro x hx;simp at hx,(Ay _ _).alloc (As _) _,by simp,HR0.o⟩
    case round=>
     clear f0 f1;obtain⟨j,rfl,hj,hin,hbq,hzq,hfr⟩:=hrel;have j1:(0:Int)<=(j:Int):=aE;have f0:wr.cell? (w4,0)=(f.tag:Int):=by simpa using Ab hfr.o 0 rfl
     have f1:wr.cell? (w4,1)=f.name:=by simpa using Ab hfr.o 1 rfl
     have hnq:¬(w4.heap.size=wr.heap.size):=aE;have Hbq:=Aa (Hb4.o.trans (hbq.o.mono Hb4.o.size));by_cases hjl:j<acc.length
     ·have j2:(j:Int)<(acc.length:Int):=aE;obtain⟨bA,oA,rfl,hbA,hrg⟩:=Sx.range ((Hrow.o.below Hb4r.o).below hbq.o) hjl;have Hts:=Aa (Bx acc j hjl);have Hmem:=Aa (ad hjl);have Hrg:=@Aa (wr.rangeAt bA (oA+j*6) [.int .i64 (acc[j].tag:Int),.string ⟨acc[j].name.toArray⟩,.string ⟨acc[j].kind.signs.toArray⟩,.string ⟨acc[j].kind.base.toArray⟩,.string ⟨acc[j].kind.name.toArray⟩,.string ⟨acc[j].given.toArray⟩]) hrg;clear hrg;generalize acc[j]=x at Hts Hmem Hrg;rcases Decidable.em (x.name=f.name)with hnm|hnm
      ·have q2:(x.name == f.name)=true:=by simp[hnm]
       have Hend:=Aa (hft3.o.trans (by rw[if_pos (.inr (Zn Hmem.o (.inr hnm)))]));clear hnm;go_wp2_with ((with_reducible refine wpList_load_mid (op:=⟨_,.load 85 _,_,_,_,none⟩) rfl 85 _ rfl bA (oA+j*6) ?_ _ _ Hrg.o underlying85 ?_ ?_ ?_);rfl;rfl;kernel_rfl)
       go_ret2;exact Ex.no Hend.o rfl (Hbq.o.alloc Hbq.o.size _)
      have q2:(x.name == f.name)=false:=by simp[hnm]
      rcases aD x.tag f.tag with ht|ht
      ·have q3:decide ((f.tag:Int)<=(x.tag:Int))=false:=dK
       have Hin:=Aa (show ∀y∈acc.take (j+1),y.name≠f.name/\y.tag<f.tag from by
        intro y hy;rw[Hts.o]at hy;rcases ae.1 hy with hy|hy
        ·exact hin.o y hy
        simp at hy;subst hy;exact⟨hnm,ht⟩)
       clear hnm;go_wp2_with ((with_reducible refine wpList_load_mid (op:=⟨_,.load 85 _,_,_,_,none⟩) rfl 85 _ rfl bA (oA+j*6) ?_ _ _ Hrg.o underlying85 ?_ ?_ ?_);rfl;rfl;kernel_rfl)
       go_roundw
       case rel=>exact⟨j+1,by go_num,by omega,Hin.o,hbq.o.alloc (Nat.le_of_lt hzq) _,by simp;omega,Av hfr.o hzq ((Ay wr.heap.size wr).alloc (As _) _)⟩
       case measure=>simp[intOf];omega
      have q3:decide ((f.tag:Int)<=(x.tag:Int))=true:=by rw[decide_eq_true_iff];omega
      have Hend:=Aa (hft3.o.trans (by rw[if_pos (.inr (Zn Hmem.o (.inl ht)))]));clear hnm;go_wp2_with ((with_reducible refine wpList_load_mid (op:=⟨_,.load 85 _,_,_,_,none⟩) rfl 85 _ rfl bA (oA+j*6) ?_ _ _ Hrg.o underlying85 ?_ ?_ ?_);rfl;rfl;kernel_rfl)
      go_ret2;exact Ex.no Hend.o rfl (Hbq.o.alloc Hbq.o.size _)
     ·have j2:¬(j:Int)<(acc.length:Int):=aE
      have Hft4:=Aa (show Ej (c::r)=Qhl c nm (E5 c (ps.drop (k+1)) (acc++[f]))from by
       rw[hft3.o,if_neg];rintro(h|h)
       ·omega
       rw[Qb7 (fun y hy=>hin.o y (by rw[ap aE];exact hy))]at h;cases h)
      have hb1:Below wo wo wr:=Hb4r.o.trans (hbq.o.mono hz4);have Hown:=Aa (Bm hown.o hb1);have Hpr:=@Aa (∀j (hj:j<ps.length),wr.cell? ⟨g,j,none⟩=some (.string ⟨ps[j].toArray⟩)) (fun j hj=>(hb1.cell (p:=⟨g,j,none⟩) (show g<wo.heap.size by omega)).trans (hpr.o j hj));have HT1:=Aa (Av hT.o (show w2.heap.size<wo.heap.size by omega) hb1);have HB1:=Aa (hB.o.belowAt (show w2.heap.size<wo.heap.size by omega) hb1);have HK1:=Aa (Bt hK.o (show w2.heap.size<wo.heap.size by omega) hb1);have hz5:w3.heap.size<=wr.heap.size:=aE;have hz6:w.heap.size<=w3.heap.size:=aE;clear hb1 f0 f1;go_wp2_with fail;refine Bh [98,99,100,101,102,103,104,105,106,107,999] aJ aJ aJ (fun u=>by dsimp only[Bn,Bk,List.set,aj,Nat.reduceAdd])
       (fun i v W=>match i with|0=>v=w2.heap.size|1=>v=w2.heap.size|2=>v=w2.heap.size|3=>v=(w2,2)|4=>v=.slice A acc.length cA|5=>v=.agg #[(f.tag:Int),f.name,f.kind.signs,f.kind.base,f.kind.name,f.given]|8=>v=w2.heap.size|9=>v=(w2,2)|_=>True)
       (fun L U W=>Below w w W/\w3.heap.size<=W.heap.size/\(∀j (hj:j<ps.length),W.cell? ⟨g,j,none⟩=some (.string ⟨ps[j].toArray⟩))/\(W.there w2 0 4/\Mu W w2.heap.size) /\
        (L 10=false->W.rangeAt w2 0 [.int .u8 (c.toNat:Int),nm,.slice A acc.length cA,.string ⟨(c::r).toArray⟩])/\(L 10=true->W.rangeAt w2 0 [.int .u8 (c.toNat:Int),nm,U 7,.string ⟨(c::r).toArray⟩]) /\
        (L 5=false->W.rangeAt w4 0 [(f.tag:Int),f.name,f.kind.signs,f.kind.base,f.kind.name,f.given])/\(L 7=false->W.ownsRow w3 85 6 (.slice A acc.length cA) acc.length (acc.flatMap Qx))/\(L 7=true->W.ownsRow w3 85 6 (U 7) (acc.length+1) (acc.flatMap Qx++Qx f)) /\
        (L 6=true->L 7=false->∃q,U 6=.slice (some ⟨q,0,none⟩) 1 1/\W.rangeAt q 0 [(f.tag:Int),f.name,f.kind.signs,f.kind.base,f.kind.name,f.given]))
       (fun _ _=>True) (fun w w' _ i v h=>by revert h;exact fun h=>h) ⟨Hbq.o.drew,hz5,Hpr.o,⟨HK1.o,HB1.o⟩,fun _=>HT1.o,by simp,fun _=>hfr.o,fun _=>Hown.o,by simp,by simp⟩ ?_ ?_
      ·repeat (first|exact Ba.nil|(refine Ba.cons ?_ ?_;rotate_left))
       all_goals
        rintro L U W hL hpre hR hun hdep K hK;have Hdep:=Aa hdep;have HR:=Aa hR;clear hun hdep hR;first|(simp[Region.binds]at hpre;done)|simp[Region.binds]at hpre|clear hpre
       ·go_simp;exact hK _ _ _ rfl Ad HR.o rfl
       ·go_simp;exact hK _ _ _ rfl Ad HR.o rfl
       ·have u1:=hpre.2;go_simp;exact hK w2.heap.size _ _ rfl Ad HR.o (by simp[Act.put,u1])
       ·have u2:=hpre.2;go_simp;exact hK (w2,2) _ _ rfl Ad HR.o (by simp[Act.put,u2])
       ·have h10:=(Ce Hdep.o 10 7 rfl (Ce Hdep.o 7 4 rfl hL))
        obtain⟨r1,r2,r3,r4,r5,r6,r7,r8,r9,r0⟩:=HR.o;have u3:=hpre.2;have c2:W.cell? (w2,2)=some (.slice A acc.length cA):=by simpa using Ab (r5 h10) 2 rfl
        clear r1 r2 r3 r4 r5 r6 r7 r8 r9 r0;go_simp;exact hK (.slice A acc.length cA) _ _ rfl Ad HR.o (by simp[Act.put,u3])
       ·obtain⟨r1,r2,r3,r4,r5,r6,r7,r8,r9,r0⟩:=HR.o;rw[if_pos cx];refine wp_load_mid 85 _ rfl w4 0 rfl [(f.tag:Int),f.name,f.kind.signs,f.kind.base,f.kind.name,f.given] _ (r7 hL) underlying85 rfl aJ ?_;exact hK (.agg ([(f.tag:Int),f.name,f.kind.signs,f.kind.base,f.kind.name,f.given]:List Value).toArray) _ _ rfl Ad ⟨r1,r2,r3,r4,r5,r6,fun h=>by simp at h,r8,r9,r0⟩ rfl
       ·obtain⟨r1,r2,r3,r4,r5,r6,r7,r8,r9,r0⟩:=HR.o;have R1:=Aa r1;have u5:=hpre.2;have HF5:=Aa (Ch W [(f.tag:Int),f.name,f.kind.signs,f.kind.base,f.kind.name,f.given] 85)
        have HRR:=Aa (show (∀j (hj:j<ps.length),(W.alloc (.cells #[(f.tag:Int),f.name,f.kind.signs,f.kind.base,f.kind.name,f.given] 85)).cell? ⟨g,j,none⟩=some (.string ⟨ps[j].toArray⟩))/\((W.alloc (.cells #[(f.tag:Int),f.name,f.kind.signs,f.kind.base,f.kind.name,f.given] 85)).there w2 0 4/\Mu (W.alloc (.cells #[(f.tag:Int),f.name,f.kind.signs,f.kind.base,f.kind.name,f.given] 85)) w2.heap.size) /\
         (L 10=false->(W.alloc (.cells #[(f.tag:Int),f.name,f.kind.signs,f.kind.base,f.kind.name,f.given] 85)).rangeAt w2 0 [.int .u8 (c.toNat:Int),nm,.slice A acc.length cA,.string ⟨(c::r).toArray⟩])/\(L 10=true->(W.alloc (.cells #[(f.tag:Int),f.name,f.kind.signs,f.kind.base,f.kind.name,f.given] 85)).rangeAt w2 0 [.int .u8 (c.toNat:Int),nm,U 7,.string ⟨(c::r).toArray⟩]) /\
         (L 5=false->(W.alloc (.cells #[(f.tag:Int),f.name,f.kind.signs,f.kind.base,f.kind.name,f.given] 85)).rangeAt w4 0 [(f.tag:Int),f.name,f.kind.signs,f.kind.base,f.kind.name,f.given])/\(L 7=false->(W.alloc (.cells #[(f.tag:Int),f.name,f.kind.signs,f.kind.base,f.kind.name,f.given] 85)).ownsRow w3 85 6 (.slice A acc.length cA) acc.length (acc.flatMap Qx))/\(L 7=true->(W.alloc (.cells #[(f.tag:Int),f.name,f.kind.signs,f.kind.base,f.kind.name,f.given] 85)).ownsRow w3 85 6 (U 7) (acc.length+1) (acc.flatMap Qx++Qx f))
         from⟨fun j hj=>by rw[World.cell?_alloc_old _ _ _ (show g≠W.heap.size by omega)];exact r3 j hj,⟨ao r4.1 _,r4.2.belowAt (show w2.heap.size<W.heap.size by omega) ((Ay _ _).alloc (As _) _)⟩,fun h=>World.rangeAt_alloc (r5 h) _,fun h=>World.rangeAt_alloc (r6 h) _,fun h=>World.rangeAt_alloc (r7 h) _,fun h=>(r8 h).alloc _,fun h=>(r9 h).alloc _⟩)
        clear r1 r3 r4 r5 r6 r7 r8 r9 r0;go_simp;refine hK (.slice (W,0) 1 1) _ _ Ad Ad ⟨R1.o.alloc R1.o.size _,by simp;omega,HRR.o.1,HRR.o.2.1,HRR.o.2.2.1,HRR.o.2.2.2.1,HRR.o.2.2.2.2.1,HRR.o.2.2.2.2.2.1,HRR.o.2.2.2.2.2.2,fun _ _=>⟨W.heap.size,rfl,HF5.o⟩⟩ (by simp[Act.put,u5])
       ·obtain⟨r1,r2,r3,r4,r5,r6,r7,r8,r9,r0⟩:=HR.o;have h10:=(Ce Hdep.o 10 7 rfl hL)
        have h7:=r8 hL;obtain⟨q,e1,e2⟩:=r0 hpre.2 hL;obtain⟨i0,hi,hz0,hz1,hz2'⟩:=info_parts Tryz.infoIf;rw[if_pos cx];refine wp_append_own W (.tmp 102) (.tmp 104) 81 rfl w3 85 i0 (.agg #[.int .i64 0,a8,a8,a8,a8,a8]) 6 88 underlying81 hi hz0 hz1 hz2' rfl aH (.slice A acc.length cA) acc.length (acc.flatMap Qx) hpre.1.2 h7 ⟨q,0,none⟩ 1 1 (Qx f) e1 (by simp[Qx]) ?_ (fun y hy=>Qh1 [f] y (by simpa using hy)) aW aE r2 ?_
        ·intro i x hx;rw[Qcr];have:=e2 i x hx;simpa using this
        intro v' w' hown' hgr _;have hbw:Below w3 W w':=(Ay _ _).grown hgr r2 (fun k hk=>(h7.lt k hk).1);refine hK v' w' _ Ad Ad ⟨r1.trans (hbw.mono hz6),ac r2 hbw.size,fun j hj=>(hbw.cell (p:=⟨g,j,none⟩) (show g<w3.heap.size by omega)).trans (r3 j hj),⟨Bt r4.1 hz3 hbw,r4.2.belowAt hz3 hbw⟩,fun h=>Av (r5 h) hz3 hbw,fun h=>absurd h10 (by rw[show L 10=true from h];decide),fun h=>absurd hpre.2 (by rw[Ce Hdep.o 6 5 rfl h];decide),fun h=>by simp at h,fun _=>hown',fun _ h=>by simp at h⟩ rfl
       ·have u0:=hpre.1.2;go_simp;exact hK w2.heap.size _ _ rfl Ad HR.o aF
       ·have u8:=hpre.2;go_simp;exact hK (w2,2) _ _ rfl Ad HR.o aF
       ·obtain⟨r1,r2,r3,r4,r5,r6,r7,r8,r9,r0⟩:=HR.o;have R1:=Aa r1;have l7:L 7=true:=by first|exact hpre.2.1|exact hpre.2.1.1
        have h5:=r5 hL;have h9:=r9 l7;obtain⟨A7,n7,c7,e7⟩:=Xi h9;rw[e7]at h9;obtain⟨y2,c2⟩:=Option.isSome_iff_exists.1 (r4.1 2 aH).1;rw[aj]at c2;have z2:W.frozen? (w2,2)=false:=by simpa using(r4.1 2 aH).2
        have hT10:=@Aa ((W.setCell ⟨w2.heap.size,2,none⟩ (.slice A7 n7 c7)).rangeAt w2 0 [.int .u8 (c.toNat:Int),nm,(.slice A7 n7 c7),.string ⟨(c::r).toArray⟩]) (Db [.int .u8 (c.toNat:Int),nm] [.slice A acc.length cA] [.string ⟨(c::r).toArray⟩] [.slice A7 n7 c7] h5 rfl);have hK10:=@Aa ((W.setCell ⟨w2.heap.size,2,none⟩ (.slice A7 n7 c7)).there w2 0 4) (ah r4.1 w2 2 [.slice A7 n7 c7]);have hBk10:=Aa (r4.2.set (o:=2) (.slice A7 n7 c7))
        have hP10:=Aa (show ∀j (hj:j<ps.length),(W.setCell ⟨w2.heap.size,2,none⟩ (.slice A7 n7 c7)).cell? ⟨g,j,none⟩=some (.string ⟨ps[j].toArray⟩)from fun j hj=>by
         rw[World.cell?_setCell_other _ _ _ _ cb];exact r3 j hj)
        have hO10:=@Aa ((W.setCell ⟨w2.heap.size,2,none⟩ (.slice A7 n7 c7)).ownsRow w3 85 6 (.slice A7 n7 c7) (acc.length+1) (acc.flatMap Qx++Qx f)) (h9.kept (Rp W _ (.slice A7 n7 c7)) (.inr (fun e=>by have:=(h9.lt _ e).1;simp at this;omega)));have hz10:w3.heap.size<=(W.setCell ⟨w2.heap.size,2,none⟩ (.slice A7 n7 c7)).heap.size:=by simpa using r2
        have hB10:=@Aa (Below w w (W.setCell ⟨w2.heap.size,2,none⟩ (.slice A7 n7 c7))) (r1.setCell hz2 _);clear r1 r3 r4 r5 r6 r7 r8 r9 r0 h5 h9;go_simp;exact hK undef _ _ Ad Ad ⟨hB10.o,hz10,hP10.o,⟨hK10.o,hBk10.o⟩,fun h=>by simp at h,fun _=>by show World.rangeAt _ _ _ [_,_,U 7,_];rw[e7];exact hT10.o,fun h=>absurd l7 (by rw[(Ce Hdep.o 7 6 rfl (Ce Hdep.o 6 5 rfl h))];decide),fun h=>absurd l7 (by rw[show L 7=false from h];decide),fun _=>by show World.ownsRow _ _ _ _ (U 7) _ _;rw[e7];exact hO10.o,fun _ h=>absurd l7 (by rw[show L 7=false from h];decide)⟩ (by simp[Act.put,hpre,e7])
      rintro L U W hL hφ hR;obtain⟨hbW,hzW,hprW,hKW,_,hTW,_,_,hoW,_⟩:=hR;have hTW':=hTW (hL 10 aH);have hoW':=hoW (hL 7 aH);generalize U 7=V at hTW' hoW';have HbW:=Aa hbW;have HprW:=Aa hprW;have HKW:=Aa hKW.1;have HBW:=Aa hKW.2;have HTW:=Aa hTW';have HoW:=Aa hoW';clear hL hφ hbW hprW hKW hTW hoW hTW' hoW';go_wp2_with fail;go_roundw
      case rel=>exact⟨k+1,acc++[f],V,by go_num,by omega,by simp;omega,Hft4.o,by rw[ag,List.flatMap_append,show [f].flatMap Qx=Qx f from by simp];exact HoW.o,HbW.o,hzW,HprW.o,HTW.o,HKW.o,HBW.o⟩
      case measure=>simp[intOf];omega
  ·have i2:¬(k:Int)<(ps.length:Int):=aE;have Hfin:=Aa (show Ej (c::r)=some ⟨c,nm,acc⟩by rw[hft.o,List.drop_of_length_le aE];rfl);go_wp2_with fail;go_ret2;refine Ex.yes Hfin.o (b:=w2.heap.size) (fv:=.slice A acc.length cA) rfl hz2 ?_ (fun k hk=>by have:=(hown.o.lt k hk).1;omega) hbr.o;refine⟨show w2.heap.size<wo.heap.size by omega,hB.o,by simpa using Ab hT.o 0 rfl,by simpa using Ab hT.o 1 rfl,by simpa using Ab hT.o 2 rfl,?_,A,cA,rfl,ha8,Hrow.o⟩;have hB:=(Fe.1 Hfin.o).2;show _=some (Value.string ⟨(Xc ⟨c,nm,acc⟩).toArray⟩);rw[hB];simpa using Ab hT.o 3 rfl
theorem Ya(s:List UInt8)(w:World)(hs:s.length<=4000000):
  Calls prog 90 #[s] w (Ex (Ej s) w):=by
 cases s with
 |nil=>exact Qdv w
 |cons c r=>
  simp at hs;by_cases hc:Dj c
  ·by_cases h:(Dc 61 r).2.2=false\/Bb (Dc 61 r).1=false\/(Dc 61 r).2.1=[]
   ·exact Qbq c r w aE hc h
   simp only[not_or]at h;exact Qbc c r (Dc 61 r).1 (Dc 61 r).2.1 w aE hc (Prod.ext rfl (Prod.ext rfl (by simpa using h.1))) (by simpa using h.2.1) h.2.2
  exact Qa7 c r w aE hc
def Qit(w:World)(p:Value)(xs:List PT):Prop:=
 ∃b mb,p=.pointer (some ⟨b,0,none⟩)/\b<w.heap.size/\w.cell? ⟨b,1,none⟩=some (.map (some mb))/\Pc w mb xs
theorem S7.map{w:World}{p:Value}{xs:List PT}(h:S7 w p xs):Qit w p xs:=by
 obtain⟨b,A,c,mb,e,h0,h1,h2,h3,h4,_⟩:=h
 exact⟨b,mb,e,h0,h2,h4⟩
theorem Fq{w:World}{mb:Nat}{xs:List PT}(h:Pc w mb xs)(n:C5)(hn:n.length<=9223372036854775807):
  (Instr.lookup 78 (.map (some mb)) (.string ⟨n.toArray⟩) false).run prog w=.ok (Rc (Ew xs n)) w:=
 Dv.lookup h Tryz.keyStr underlying78 (Tryz.zeroPtr w) (Qcq hn)
theorem Gs{k:Kd}(h:C0 k):k.name.length<=3:=by
 rcases h.2.1 with⟨_,hn⟩|⟨_,hn⟩
 ·exact(Ep.1 hn).2.1
 rw[hn];simp
theorem S7.tys{w:World}{p:Value}{xs:List PT}(h:S7 w p xs):∀x∈xs,So w x:=by
 obtain⟨_,_,_,_,_,_,_,_,_,_,h,_⟩:=h
 exact h
theorem Z5(p:Value)(xs:List PT)(k:Kd)(w:World)(h:Qit w p xs)(hk:k.name.length<=100):
  Calls prog 54 #[p,Gb k] w fun e w'=>e=.returned (.bool (decide (B9 (Af xs) k)))/\Below w w w':=by
 obtain⟨b,mb,rfl,hb,hm,hn⟩:=h;have Hn:=Aa hn;clear hn;unfold Gb;generalize hd:(.cells #[k.signs,k.base,k.name] 39:Obj)=ob;have hl0:w.heap.size<(w.alloc ob).heap.size:=aI;have x1:(w.alloc ob).cell? (w,1)=k.base:=by rw[<-hd];simp
 have x2:(w.alloc ob).cell? (w,2)=k.name:=by rw[<-hd];simp
 have x3:(w.alloc ob).cell? (b,1)=some (.map (some mb)):=by rw[World.cell?_alloc_old _ _ _ (show b≠w.heap.size by omega)];exact hm
 have hlook:∀q,(Instr.lookup 78 (.map (some mb)) k.name false).run prog ((w.alloc ob).drewN q)=.ok (Rc (Ew xs k.name)) ((w.alloc ob).drewN q):=fun q=>Fq (Dv.below (Hn.o.alloc _) (below_drewN (Ay _ _) q)) k.name aE;have Hd:=Aa hd
 have Hr:=Aa (show decide (B9 (Af xs) k)=(decide (k.base≠[64]) || (Ew xs k.name).isSome)by
  have e:B9 (Af xs) k↔(k.base=[64]->(Ew xs k.name).isSome=true):=by unfold B9;rw[Jm];simp
  by_cases h:k.base=[64]
  ·cases hf:Ew xs k.name with
   |none=>rw[az (fun h2=>by have:=e.1 h2 h;rw[hf]at this;cases this)];simp[h]
   |some x=>rw[aA (e.2 (fun _=>by rw[hf];rfl))];simp
  rw[aA (e.2 (fun h2=>absurd h2 h))];simp[h])
 have Hb:=@Aa (Below w w (w.alloc ob)) ((Ay _ _).alloc (As _) _);go_enter func54,ntmps54;rcases Decidable.em (k.base=[64])with h64|h64
 ·have t1:(k.base != [64])=false:=eo;have H64:=Aa h64;clear h64 hd hl0;go_wp2_with fail;rw[Hd.o];cases hf:Ew xs k.name with
  |none=>
   rw[hf]at hlook;have Hf:=Aa hf;clear hf;unfold Rc at hlook;refine Bh [5,6,7,8,9,10,11,12,13,14,15,16,17,4] aJ aJ aJ (fun u=>by dsimp only[Bn,Bk,List.set,aj,Nat.reduceAdd])
    (fun i v W=>match i with|0=>v=(w,1)|1=>v=k.base|2=>v=.bool false|3=>v=.bool false|4=>v=b|5=>v=b|6=>v=(b,1)|7=>v=.map (some mb)|8=>v=(w,2)|9=>v=k.name|10=>v=.pointer none|11=>v=.bool false|12=>v=.bool false|13=>v=.bool false|_=>True) (fun L U W=>∃q,W=(w.alloc ob).drewN q) (fun _ _=>True) (fun _ _ _ _ _ h=>h) ⟨1,rfl⟩ ?_ ?_
   ·exact fQ
   rintro L U W hL hφ ⟨q,rfl⟩;have e13:U 13=.bool false:=hφ 13 aH;simp only[e13];go_wp2_with fail;go_ret;exact⟨Eh (Cr (by rw[Hr.o,Hf.o];simp[H64.o])),below_drewN Hb.o _⟩
  |some x=>
   rw[hf]at hlook;have Hf:=Aa hf;clear hf;unfold Rc PT.ptr at hlook;refine Bh [5,6,7,8,9,10,11,12,13,14,15,16,17,4] aJ aJ aJ (fun u=>by dsimp only[Bn,Bk,List.set,aj,Nat.reduceAdd])
    (fun i v W=>match i with|0=>v=(w,1)|1=>v=k.base|2=>v=.bool false|3=>v=.bool false|4=>v=b|5=>v=b|6=>v=(b,1)|7=>v=.map (some mb)|8=>v=(w,2)|9=>v=k.name|10=>v=x.blk|11=>v=.bool true|12=>v=.bool true|13=>v=.bool true|_=>True) (fun L U W=>∃q,W=(w.alloc ob).drewN q) (fun _ _=>True) (fun _ _ _ _ _ h=>h) ⟨1,rfl⟩ ?_ ?_
   ·exact fQ
   rintro L U W hL hφ ⟨q,rfl⟩;have e13:U 13=.bool true:=hφ 13 aH;simp only[e13];go_wp2_with fail;go_ret;exact⟨Eh (Cr (by rw[Hr.o,Hf.o];simp)),below_drewN Hb.o _⟩
 have t1:(k.base != [64])=true:=eo;have H64:=Aa h64;clear h64 hd hl0;go_wp2_with fail;rw[Hd.o];refine Bh [5,6,7,8,9,10,11,12,13,14,15,16,17,4] aJ aJ aJ (fun u=>by dsimp only[Bn,Bk,List.set,aj,Nat.reduceAdd])
  (fun i v W=>match i with|0=>v=(w,1)|1=>v=k.base|2=>v=.bool true|3=>v=.bool true|12=>v=.bool true|13=>v=.bool true|_=>True) (fun L U W=>∃q,W=(w.alloc ob).drewN q) (fun _ _=>True) (fun _ _ _ _ _ h=>h) ⟨1,rfl⟩ ?_ ?_
 ·exact fQ
 rintro L U W hL hφ ⟨q,rfl⟩;have e13:U 13=.bool true:=hφ 13 aH;simp only[e13];go_wp2_with fail;go_ret;exact⟨Eh (Cr (by rw[Hr.o];simp[H64.o])),below_drewN Hb.o _⟩
theorem Rm{S:List Ty}{n:Nat}{t:Ty}(h:Fk S t=none):Bu S (n+1) t=true:=by rw[Bu,h]
theorem Qgz{S:List Ty}{n:Nat}{t u:Ty}(h:Fk S t=some u):Bu S (n+1) t=Bu S n u:=by rw[Bu,h]
theorem Qdb{S:List Ty}{t:Ty}(h:t.sort≠85):Fk S t=none:=if_neg h
theorem Qed{S:List Ty}{t:Ty}{f:Fd}{fs:List Fd}(h:t.sort=85)(hf:t.fields=f::fs):Fk S t=if f.kind.signs=[]/\f.kind.base=[64]then B0 S f.kind.name else none:=by
 unfold Fk;rw[if_pos h,hf]
theorem Zh{t:Ty}(h:Ed t)(hs:t.sort=85):∃f fs,t.fields=f::fs/\C0 f.kind:=by
 obtain⟨_,_,h3,_,h5⟩:=h;cases hf:t.fields with
 |nil=>have:=h5 hf;rw[hs]at this;exact absurd this aH
 |cons f fs=>exact⟨f,fs,rfl,((h3.1 f dz).2.2.2.2 dD).1⟩
theorem Qd3(p:Value)(xs:List PT)(x:PT)(w:World)(h:Qit w p xs)(hT:∀y∈xs,So w y)(hok:∀y∈xs,Ed y.ty)(hS:Gg (Af xs))(hx:x∈xs):
  Calls prog 91 #[p,x.ptr] w fun e w'=>e=.returned (.bool (Bu (Af xs) 9 x.ty))/\Below w w w':=by
 have Hmap:=Aa h;obtain⟨b,mb,rfl,hb,hm,hn⟩:=h;have HT:=Aa hT;have Hok:=Aa hok;have HS:=Aa hS;have Hx:=Aa hx;have Hn:=Aa hn;have Hm:=Aa hm;clear hT hok hS hx hn hm;unfold PT.ptr;go_enter func91,ntmps91;go_wp2_with fail;go_loopw [1,6] (fun t i wr=>∃(n:Nat) (y:PT),i=.int .i64 n/\n<=9/\t=y.blk/\Hid (y∈xs)/\Hid (Bu (Af xs) 9 x.ty=Bu (Af xs) (9 - n) y.ty)/\Hid (Below w w wr)) (fun _ i _=>9 - (intOf i).toNat)
 case atStart=>exact⟨0,x,rfl,by omega,rfl,Hx.o,rfl,Ay _ _⟩
 case round=>
  obtain⟨n,y,rfl,hn9,rfl,hy,he,hbr⟩:=hrel;have n1:(0:Int)<=(n:Int):=aE;obtain⟨hyb,_,y0,y1,y2,y3,A,cA,hyf,hl8,hrow⟩:=(HT.o y hy.o).below hbr.o;have Hrow:=Aa hrow;have hzw:=hbr.o.size;rw[hyf]at y2;clear hrow hyf y1 y3;by_cases hlt:n<9
  ·have n2:(n:Int)<9:=aE;have he2:=Aa (show Bu (Af xs) 9 x.ty=Bu (Af xs) (8 - n+1) y.ty by rw[he.o,show 9 - n=8 - n+1 by omega]);by_cases h85:y.ty.sort=85
   ·have t1:((y.ty.sort.toNat:Int) != 85)=false:=Ks (d:=85) h85;obtain⟨f,fs,hf,hkd⟩:=Zh (Hok.o y hy.o) h85;have Hnext:=Aa (Qed (S:=Af xs) h85 hf);have hpos:0<y.ty.fields.length:=dz;obtain⟨bA,oA,rfl,hbA,hrg⟩:=Sx.range Hrow.o hpos;have hf0:y.ty.fields[0]=f:=by simp[hf]
    rw[hf0,Nat.zero_mul,Nat.add_zero]at hrg;have Hrg:=@Aa (wr.rangeAt bA (oA+2) [f.kind.signs,f.kind.base,f.kind.name]) (Ye [(f.tag:Int),f.name] _ [f.given] hrg);have hp1:(0:Int)<(y.ty.fields.length:Int):=aE;have Href:=Aa (HS.o y.ty (am (f:=(·.ty)) hy.o) dt f dz);have Hkd:=Aa hkd;have hnl:=Gs hkd;clear h85 hf hf0 hrg hkd;have hbb:=Aa ((Hm.o));by_cases hsg:f.kind.signs=[]
    ·have s1:(f.kind.signs != [])=false:=cB;have s2:f.kind.signs.isEmpty=true:=cB;have s4:(!f.kind.signs.isEmpty)=false:=cB;by_cases h64:f.kind.base=[64]
     ·have s3:(f.kind.base == [64])=true:=eo;have s5:(f.kind.base != [64])=false:=eo;have hsome:=Href.o h64;rw[Jm]at hsome;cases hz:Ew xs f.kind.name with
      |none=>rw[hz]at hsome;cases hsome
      |some z=>
       have Hz:=Aa (show Bu (Af xs) 9 x.ty=Bu (Af xs) (8 - n) z.ty from by
        rw[he2.o];exact Qgz (by rw[Hnext.o,if_pos ⟨hsg,h64⟩,Jm,hz];rfl))
       have Hzm:=Aa (Fi hz).1;generalize hd:(.cells #[f.kind.signs,f.kind.base,f.kind.name] 39:Obj)=ob;have x2:(wr.alloc ob).cell? (wr,2)=f.kind.name:=by rw[<-hd];simp
       have x3:(wr.alloc ob).cell? (b,1)=some (.map (some mb)):=by
        rw[World.cell?_alloc_old _ _ _ (show b≠wr.heap.size by omega)];exact(hbr.o.cell (p:=⟨b,1,none⟩) hb).trans Hm.o
       have hlook:∀q,(Instr.lookup 78 (.map (some mb)) f.kind.name false).run prog ((wr.alloc ob).drewN q)=.ok z.blk ((wr.alloc ob).drewN q):=fun q=>by
        have:=Fq (Dv.below (Dv.alloc (Dv.below Hn.o hbr.o) ob) (below_drewN (Ay _ _) q)) f.kind.name aE;rw[hz]at this;exact this
       have Hbb:=@Aa (Below w w (wr.alloc ob)) (hbr.o.alloc hzw _);have Hd:=Aa hd;clear hd hsg h64 hz hsome;go_wp2_with ((with_reducible refine wpList_load_mid (op:=⟨_,.load 39 _,_,_,_,none⟩) rfl 39 _ rfl bA (oA+2) ?_ _ _ Hrg.o underlying39 ?_ ?_ ?_);rfl;rfl;kernel_rfl)
       rw[Hd.o];refine Bh [28,29,30,31,32,33,34,1] aJ aJ aJ (fun u=>by dsimp only[Bn,Bk,List.set,aj,Nat.reduceAdd])
        (fun i v W=>match i with|0=>v=b|1=>v=b|2=>v=(b,1)|3=>v=.map (some mb)|4=>v=(wr,2)|5=>v=f.kind.name|6=>v=z.blk|7=>v=z.blk|_=>True) (fun L U W=>∃q,W=(wr.alloc ob).drewN q) (fun _ _=>True) (fun _ _ _ _ _ h=>h) ⟨1,rfl⟩ ?_ ?_
       ·repeat (first|exact Ba.nil|(refine Ba.cons ?_ ?_;rotate_left))
        all_goals
         rintro L U W hL hpre ⟨q,rfl⟩ hun hdep K hK;have hlq:=hlook q;clear hun hdep;first|(simp[Region.binds]at hpre;done)|simp[Region.binds]at hpre|clear hpre
         go_simp;first|exact hK _ _ _ rfl Ad ⟨q,rfl⟩ rfl|exact hK _ _ _ rfl Ad ⟨q,rfl⟩ aF
       rintro L U W hL hφ ⟨q,rfl⟩;have e7:U 7=z.blk:=hφ 7 aH;simp only[e7];clear hφ hL hlook x2 x3;go_wp2_with fail;go_roundw
       case rel=>exact⟨n+1,z,by go_num,by omega,rfl,Hzm.o,by show _=Bu (Af xs) (9 - (n+1)) z.ty;rw[Hz.o,show 9 - (n+1)=8 - n by omega],below_drewN Hbb.o _⟩
       case measure=>simp[intOf];omega
     have s3:(f.kind.base == [64])=false:=eo;have s5:(f.kind.base != [64])=true:=eo;have Hend:=Aa (he2.o.trans (Rm (by rw[Hnext.o,if_neg (fun h=>h64 h.2)])));clear hsg h64;go_wp2_with ((with_reducible refine wpList_load_mid (op:=⟨_,.load 39 _,_,_,_,none⟩) rfl 39 _ rfl bA (oA+2) ?_ _ _ Hrg.o underlying39 ?_ ?_ ?_);rfl;rfl;kernel_rfl)
     exact iJ
    have s1:(f.kind.signs != [])=true:=cB;have s2:f.kind.signs.isEmpty=false:=cB;have s4:(!f.kind.signs.isEmpty)=true:=cB;have Hend:=Aa (he2.o.trans (Rm (by rw[Hnext.o,if_neg (fun h=>hsg h.1)])));clear hsg;go_wp2_with ((with_reducible refine wpList_load_mid (op:=⟨_,.load 39 _,_,_,_,none⟩) rfl 39 _ rfl bA (oA+2) ?_ _ _ Hrg.o underlying39 ?_ ?_ ?_);rfl;rfl;kernel_rfl)
    exact iJ
   have t1:((y.ty.sort.toNat:Int) != 85)=true:=Nt (d:=85) h85;have Hend:=Aa (he2.o.trans (Rm (Qdb h85)));clear h85;go_wp2_with fail;go_ret;exact⟨Eh (Cr Hend.o.symm),hbr.o⟩
  ·obtain rfl:n=9:=aE;have Hend:=@Aa (Bu (Af xs) 9 x.ty=false) he.o;go_wp2_with fail;go_ret;exact⟨Eh (Cr Hend.o.symm),hbr.o⟩
theorem So.kept{w w':World}{x:PT}{row:Option Nat}(h:So w x)(hg:w.grownBy w' row)(h1:row≠some x.blk)(h2:∀k,0<x.ty.fields.length->x.fv.ownBlock=some k->row≠some k):So w' x:=by
 obtain⟨h0,hk,a0,a1,a2,a3,A,c,e,hl,hr⟩:=h;have hne:some x.blk≠row:=fun e=>h1 e.symm;refine⟨ab h0 hg.size,hk.grown h0 hg hne,hg.cell a0 hne,hg.cell a1 hne,hg.cell a2 hne,hg.cell a3 hne,A,c,e,hl,hr.1,hr.2.1,fun hn=>?_⟩;obtain⟨b,off,eA,hb,hc⟩:=hr.2.2 hn;have hne2:some b≠row:=fun e2=>h2 b aE (by rw[e,eA];rfl) e2.symm;exact⟨b,off,eA,ab hb hg.size,fun j u hu=>hg.cell (hc j u hu) hne2⟩
theorem So.fvlt{w:World}{x:PT}(h:So w x){k:Nat}(hn:0<x.ty.fields.length)(hk:x.fv.ownBlock=some k):k<w.heap.size:=by
 obtain⟨_,_,_,_,_,_,A,c,e,_,hr⟩:=h;obtain⟨b,off,eA,hb,_⟩:=hr.2.2 aE;rw[e,eA]at hk;simp only[Value.ownBlock,ai]at hk;omega
def Qbe(lo:Nat)(x:PT):Prop:=lo<=x.blk/\∀k,0<x.ty.fields.length->x.fv.ownBlock=some k->lo<=k
def Qf7(v:Value)(x:PT):Prop:=v.ownBlock≠some x.blk/\∀k,0<x.ty.fields.length->x.fv.ownBlock=some k->v.ownBlock≠some k
def Ti(w:World)(lo:Nat)(v:Value)(xs:List PT):Prop:=(∀x∈xs,So w x/\Qbe lo x/\Qf7 v x)/\xs.Pairwise fun x y=>x.blk≠y.blk
theorem Ti.far{w w':World}{lo b:Nat}{v:Value}{xs:List PT}(h:Ti w lo v xs)(hg:w.grownBy w' (some b))(hb:b<lo):Ti w' lo v xs:=
 ⟨fun x hx=>by
  obtain⟨h1,h2,h3⟩:=h.1 x hx;refine⟨h1.kept hg (fun e=>?_) (fun k hn hk e=>?_),h2,h3⟩
  ·injection e with e;have:=h2.1;omega
  injection e with e;have:=h2.2 k hn hk;omega,h.2⟩
theorem Ti.below{w w':World}{lo:Nat}{v:Value}{xs:List PT}(h:Ti w lo v xs)(hb:Below w w w'):Ti w' lo v xs:=
 ⟨fun x hx=>⟨(h.1 x hx).1.below hb,(h.1 x hx).2⟩,h.2⟩
theorem Ti.push{wo w3 w5:World}{lo base n k1:Nat}{e:TypeId}{v v5:Value}{cs:List Value}{xs:List PT}{x:PT}(h:Ti wo lo v xs)(hb:Below wo wo w3)(hown:wo.ownsRow base e k1 v n cs)(hx:So w3 x)(hxb:wo.heap.size<=x.blk)
  (hxf:∀k,x.fv.ownBlock=some k->wo.heap.size<=k) (hlo:lo<=wo.heap.size) (hg:w3.grownBy w5 v.ownBlock) (hwh:v5.ownBlock=v.ownBlock\/∃k,v5.ownBlock=some k/\w3.heap.size<=k):Ti w5 lo v5 (xs++[x]):=by
 have hall:∀y∈xs++[x],So w3 y/\Qbe lo y/\Qf7 v y:=by
  intro y hy;rcases ae.1 hy with hy|hy
  ·obtain⟨h1,h2⟩:=h.1 y hy;exact⟨h1.below hb,h2⟩
  simp at hy;subst hy;refine⟨hx,⟨by omega,fun k _ hk=>by have:=hxf k hk;omega⟩,fun e=>?_,fun k _ hk e=>?_⟩
  ·have:=(hown.lt _ e).2;omega
  have:=(hown.lt _ e).2;have:=hxf k hk;omega
 refine⟨fun y hy=>?_,?_⟩
 ·obtain⟨h1,h2,h3⟩:=hall y hy;refine⟨h1.kept hg h3.1 h3.2,h2,?_⟩;rcases hwh with hwh|⟨k,hwh,hk⟩
  ·unfold Qf7;rw[hwh];exact h3
  refine⟨fun e=>?_,fun k2 hn hk2 e=>?_⟩
  ·rw[hwh]at e;injection e with e;have:=h1.1;omega
  rw[hwh]at e;injection e with e;have:=h1.fvlt hn hk2;omega
 rw[List.pairwise_append];refine⟨h.2,by simp,fun y hy z hz=>?_⟩;simp at hz;subst hz;have:=(h.1 y hy).1.1;omega
def Za(lo:Nat)(w:World)(p:Value)(xs:List PT):Prop:=
 ∃b A c mb,p=.pointer (some ⟨b,0,none⟩)/\b<w.heap.size/\w.cell? ⟨b,0,none⟩=some (.slice A xs.length c)/\w.cell? ⟨b,1,none⟩=some (.map (some mb))/\B8 w A xs.length (xs.map (·.ptr))/\Pc w mb xs/\(∀x∈xs,So w x)/\(xs.Pairwise fun x y=>x.blk≠y.blk) /\
  lo<=b/\lo<=mb/\(∀g o,0<xs.length->A=some ⟨g,o,none⟩->lo<=g)/\∀x∈xs,Qbe lo x
theorem Za.isc{lo:Nat}{w:World}{p:Value}{xs:List PT}(h:Za lo w p xs):S7 w p xs:=by
 obtain⟨b,A,c,mb,h0,h1,h2,h3,h4,h5,h6,h7,_⟩:=h;exact⟨b,A,c,mb,h0,h1,h2,h3,h4,h5,h6,h7⟩
theorem Za.below{lo:Nat}{w w':World}{p:Value}{xs:List PT}(h:Za lo w p xs)(hb:Below w w w'):Za lo w' p xs:=by
 obtain⟨b,A,c,mb,e,h0,h1,h2,h3,h4,h5,h6,h7⟩:=h;obtain⟨hc,_,hz⟩:=B4 hb;exact⟨b,A,c,mb,e,hz _ h0,(hc _ _ h0).trans h1,(hc _ _ h0).trans h2,h3.below hb,Dv.below h4 hb,fun x hx=>(h5 x hx).below hb,h6,h7⟩
theorem Za.far{lo b0:Nat}{w w':World}{p:Value}{xs:List PT}(h:Za lo w p xs)(hg:w.grownBy w' (some b0))(hb0:b0<lo):Za lo w' p xs:=by
 obtain⟨b,A,c,mb,e,h0,h1,h2,h3,h4,h5,h6,l1,l2,l3,l4⟩:=h;have hne:some b≠some b0:=cb;refine⟨b,A,c,mb,e,ab h0 hg.size,hg.cell h1 hne,hg.cell h2 hne,⟨h3.1,h3.2.1,fun hn=>?_⟩,Dv.kept h4 hg cb,fun x hx=>(h5 x hx).kept hg (fun e=>?_) (fun k hn hk e=>?_),h6,l1,l2,l3,l4⟩
 ·obtain⟨g,o,eA,hgl,hc⟩:=h3.2.2 hn;have:=l3 g o hn eA;exact⟨g,o,eA,ab hgl hg.size,fun j u hu=>hg.cell (hc j u hu) (by intro e;injection e with e;simp at e;omega)⟩
 ·injection e with e;have:=(l4 x hx).1;omega
 injection e with e;have:=(l4 x hx).2 k hn hk;omega
def Gr(o:Option (List Ty))(w:World)(e:Ending)(w':World):Prop:=
 (match o with
  |some S=>∃p xs,Af xs=S/\e=.returned (.tuple #[p,.bool true])/\Za w.heap.size w' p xs
  |none=>∃p:Option Addr,e=.returned (.tuple #[.pointer p,.bool false]))/\Below w w w'
theorem Gr.no{w w':World}{e:Ending}{o:Option (List Ty)}(ho:o=none){p:Option Addr}(he:e=.returned (.tuple #[.pointer p,.bool false]))(hb:Below w w w'):Gr o w e w':=by
 rw[ho];exact⟨⟨p,he⟩,hb⟩
theorem Gr.yes{w w':World}{e:Ending}{o:Option (List Ty)}{p:Value}{xs:List PT}(ho:o=some (Af xs))(he:e=.returned (.tuple #[p,.bool true]))(hs:Za w.heap.size w' p xs)(hb:Below w w w'):Gr o w e w':=by
 rw[ho];exact⟨⟨p,xs,rfl,he,hs⟩,hb⟩
theorem Qav{xs:List PT}{x:PT}(h:Ew xs x.ty.name=none)(l:Lit)(hl:WideAt.IsKeyLit l):(if l.sameKey (.string x.ty.name)=true then x.ptr else Ts xs l)=Ts (xs++[x]) l:=by
 by_cases e:l=.string x.ty.name
 ·subst e;rw[if_pos (WideAt.sameKey_self hl)];unfold Ew at h;show x.ptr=Rc ((xs++[x]).find? fun y=>decide (y.ty.name=x.ty.name));rw[List.find?_append,h];simp[Rc]
 rw[if_neg (fun hh=>e ((WideAt.sameKey_iff (show WideAt.IsKeyLit (.string x.ty.name)from Ad)).1 hh))];cases l with
 |string s=>
  have hne:¬x.ty.name=s:=fun h2=>e (by rw[h2]);unfold Ts Ew;simp only;rw[List.find?_append];simp[hne]
 |_=>rfl
theorem T1{xs:List PT}{n:C5}:Ew xs n=none↔(Af xs).any (fun u=>decide (u.name=n))=false:=by
 unfold Ew Af;rw[List.find?_eq_none,List.any_map];simp
theorem Tryz.infoPt:(prog.info? 76).map (fun i=>(i.zero,i.size,i.bytes))=some (some (.pointer none),1,8):=aJ
theorem Xy(s:List UInt8)(w:World)(hs:s.length<=4000000)(h:400<s.length):
  Calls prog 52 #[s] w (Gr (Ci s) w):=by
 have HF:=@Aa (Ci s=none) (if_pos h);have t1:(400:Int)<(s.length:Int):=aE;go_enter func52,ntmps52;go_wp2_with fail;go_ret2;exact Gr.no HF.o rfl (Ay _ _)
theorem Qbt(s:List UInt8)(w:World)(hs:s.length<=400):
  Calls prog 52 #[s] w (Gr (Ci s) w):=by
 have HF:=@Aa (Ci s=(match Fl (s.length+1) s []with|none=>none|some S=>if Gg S/\(∀t∈S,Bu S 9 t=true)then some S else none)) (if_neg aE);have t1:¬(400:Int)<(s.length:Int):=aE;have hmm:=@run_makeMap prog;go_enter func52,ntmps52;go_wp2_with fail;clear hmm;have HM0:=@Aa (Dv prog 9 (.pointer none) ((w.alloc (.map #[] 0)).alloc (.cells #[.slice none 0 0,.map (some w.heap.size)] 80)) w 0 (Ts [])) (((Dv.made w prog 9 (.pointer none)).alloc _).of_eq (fun l hl=>by cases l<;>rfl))
 have HR0:=Aa (show ((w.alloc (.map #[] 0)).alloc (.cells #[.slice none 0 0,.map (some w.heap.size)] 80)).rangeAt (w.heap.size+1) 0 [.slice none 0 0,.map (some w.heap.size)]from by
  have:=Ch (w.alloc (.map #[] 0)) [.slice none 0 0,.map (some w.heap.size)] 80;simpa using this)
 have HK0:=Aa (show ((w.alloc (.map #[] 0)).alloc (.cells #[.slice none 0 0,.map (some w.heap.size)] 80)).there (w.heap.size+1) 0 2 from by
  have:=D2 (w.alloc (.map #[] 0)) [.slice none 0 0,.map (some w.heap.size)] 80;simpa using this)
 have HB0:=@Aa (Below w w ((w.alloc (.map #[] 0)).alloc (.cells #[.slice none 0 0,.map (some w.heap.size)] 80))) (((Ay _ _).alloc (As _) _).alloc aI _);have HO0:=Aa (World.ownsRow_nil ((w.alloc (.map #[] 0)).alloc (.cells #[.slice none 0 0,.map (some w.heap.size)] 80)) (w.heap.size+2) 76 1)
 go_loopw [0] (fun l wr=>∃(u:List UInt8) (fuel:Nat) (xs:List PT) (tv:Value),l=u/\u.length<=s.length/\u.length<fuel/\Hid (Fl (s.length+1) s []=Fl fuel u (Af xs))/\xs.length<=8 /\
   Hid (wr.rangeAt (w.heap.size+1) 0 [tv,.map (some w.heap.size)])/\Hid (wr.there (w.heap.size+1) 0 2)/\Hid (wr.ownsRow (w.heap.size+2) 76 1 tv xs.length (xs.map (·.ptr))) /\
   Hid (Pc wr w.heap.size xs)/\Hid (Ti wr (w.heap.size+2) tv xs)/\Hid (Below w w wr)/\w.heap.size+2<=wr.heap.size) (fun l _=>J6 l)
 case atStart=>exact⟨s,s.length+1,[],.slice none 0 0,rfl,As _,by omega,rfl,by simp,HR0.o,HK0.o,HO0.o,HM0.o,⟨by simp,List.Pairwise.nil⟩,HB0.o,by simp⟩
 case round=>
  clear HM0 HR0 HK0 HB0 HO0;obtain⟨wo,rfl⟩:∃wo:World,wo=wr:=⟨_,rfl⟩
  obtain⟨u,fuel,xs,tv,rfl,hul,hfu,hlin,hx8,hT,hK,hown,hnm,hty,hbr,hzr⟩:=hrel;obtain⟨A,cA,rfl,hrow⟩:=B8.own hown.o;have Hrow:=Aa hrow;have s0:wo.cell? (w,1,0)=some (.slice A xs.length cA):=by simpa using Ab hT.o 0 rfl
  have s1:wo.cell? (w,1,1)=some (.map (some w.heap.size)):=by simpa using Ab hT.o 1 rfl
  obtain⟨fuel,rfl⟩:∃f,fuel=f+1:=⟨fuel - 1,by omega⟩
  clear hrow;by_cases hu:u=[]
  ·subst hu;have Hlin:=Aa (show Fl (s.length+1) s []=some (Af xs)by rw[hlin.o];simp[Fl]);have hgood:=Ru.1 Hlin.o;have Htok:=@Aa (∀x∈xs,Ed x.ty) (fun x hx=>hgood.1.1 x.ty (am (f:=(·.ty)) hx));have HF2:=@Aa (Ci s=if Gg (Af xs)/\(∀t∈Af xs,Bu (Af xs) 9 t=true)then some (Af xs)else none) (by rw[HF.o,Hlin.o]);have HSC:=@Aa (S7 wo (w,1,0) xs) ⟨w.heap.size+1,A,cA,w.heap.size,rfl,by omega,s0,s1,by have:=Hrow.o;simpa using this,hnm.o,fun x hx=>(hty.o.1 x hx).1,hty.o.2⟩;have Hrow2:=@Aa (B8 wo A xs.length (xs.map (·.ptr))) Hrow.o
   have HSL:=Aa (show Za w.heap.size wo (w,1,0) xs from⟨w.heap.size+1,A,cA,w.heap.size,rfl,by omega,s0,s1,Hrow2.o,hnm.o,fun x hx=>(hty.o.1 x hx).1,hty.o.2,by omega,As _,fun g o _ eA=>by
    have:=(hown.o.lt g (by rw[eA];rfl)).1;omega,fun x hx=>⟨by have:=(hty.o.1 x hx).2.1.1;omega,fun k hn hk=>by have:=(hty.o.1 x hx).2.1.2 k hn hk;omega⟩⟩)
   clear hgood hlin hT hK hown hnm hty Hrow HF Hlin;have S0:=Aa s0;go_wp2_with fail;clear s0 s1;go_loopw [84] (fun i wr=>∃k:Nat,i=.int .i64 k/\k<=xs.length/\Hid (∀x∈xs.take k,x.ty.sort≠69->∀f∈x.ty.fields,B9 (Af xs) f.kind)/\Hid (Below wo wo wr)) (fun i _=>xs.length - (intOf i).toNat)
   case atStart=>exact⟨0,rfl,af _,by intro x hx;simp at hx,Ay _ _⟩
   case round=>
    obtain⟨wp,rfl⟩:∃wp:World,wp=wr:=⟨_,rfl⟩
    obtain⟨k,rfl,hk,hin,hbp⟩:=hrel;have k1:(0:Int)<=(k:Int):=aE;have hzp:=hbp.o.size;by_cases hkl:k<xs.length
    ·have k2:(k:Int)<(xs.length:Int):=aE;obtain⟨bA,oA,rfl,hbA,cl⟩:=(Hrow2.o.below hbp.o).at_ hkl;rw[List.getElem_map]at cl;have Hts:=Aa (Bx xs k hkl);have Hmem:=Aa (ad hkl);generalize xs[k]=x at cl Hts Hmem;unfold PT.ptr at cl;have Hxt:=Aa (Htok.o x Hmem.o);obtain⟨hyb,_,y0,y1,y2,y3,A7,c7,hyf,hl8,hrow7⟩:=(HSC.o.tys x Hmem.o).below hbp.o;rw[hyf]at y2;have Hrow7:=Aa hrow7;clear hrow7 hyf y1 y3;go_wp2_with fail;go_loopw [93] (fun i wr=>∃j:Nat,i=.int .i64 j/\j<=x.ty.fields.length/\Hid (x.ty.sort≠69->∀f∈x.ty.fields.take j,B9 (Af xs) f.kind)/\Hid (Below wp wp wr)) (fun i _=>x.ty.fields.length - (intOf i).toNat)
     case atStart=>exact⟨0,rfl,af _,by intro _ f hf;simp at hf,Ay _ _⟩
     case round=>
      obtain⟨j,rfl,hj,hin2,hbq⟩:=hrel;have j1:(0:Int)<=(j:Int):=aE;have hzq:=hbq.o.size;have x0:=(hbq.o.cell (p:=⟨x.blk,0,none⟩) hyb).trans y0;have hxw:x.blk<wr.heap.size:=aE;have hxn:¬(x.blk=wr.heap.size):=aE;have Hbw:=@Aa (Below w w wr) ((hbr.o.trans (hbp.o.mono aE)).trans (hbq.o.mono aE));have Hbo2:=@Aa (Below wo wo wr) (hbp.o.trans (hbq.o.mono hzp));by_cases hjl:j<x.ty.fields.length
      ·have j2:(j:Int)<(x.ty.fields.length:Int):=aE;obtain⟨b8,o8,rfl,hb8,hrg⟩:=Sx.range (Hrow7.o.below hbq.o) hjl;have Hts2:=Aa (Bx x.ty.fields j hjl);have Hfm:=Aa (ad hjl);have Hrg:=@Aa (wr.rangeAt b8 (o8+j*6) [.int .i64 (x.ty.fields[j].tag:Int),.string ⟨x.ty.fields[j].name.toArray⟩,.string ⟨x.ty.fields[j].kind.signs.toArray⟩,.string ⟨x.ty.fields[j].kind.base.toArray⟩,.string ⟨x.ty.fields[j].kind.name.toArray⟩,.string ⟨x.ty.fields[j].given.toArray⟩]) hrg;clear hrg;generalize x.ty.fields[j]=f at Hts2 Hfm Hrg;by_cases h69:x.ty.sort=69
       ·have t69:((x.ty.sort.toNat:Int) != 69)=false:=Ks (d:=69) h69;have Hin2:=@Aa (x.ty.sort≠69->∀f∈x.ty.fields.take (j+1),B9 (Af xs) f.kind) (fun h=>absurd h69 h);clear h69;go_wp2_with ((with_reducible refine wpList_load_mid (op:=⟨_,.load 85 _,_,_,_,none⟩) rfl 85 _ rfl b8 (o8+j*6) ?_ _ _ Hrg.o underlying85 ?_ ?_ ?_);rfl;rfl;kernel_rfl)
        go_roundw
        case rel=>exact⟨j+1,by go_num,by omega,Hin2.o,hbq.o.alloc hzq _⟩
        case measure=>simp[intOf];omega
       have t69:((x.ty.sort.toNat:Int) != 69)=true:=Nt (d:=69) h69;have Hkd:=Aa ((Hxt.o.2.2.1.1 f Hfm.o).2.2.2.2 h69).1;have Hhas:=Aa (fun W (h:Below wo wo W)=>Z5 _ xs f.kind W (HSC.o.below h).map (ac (Gs Hkd.o) aH));unfold Gb at Hhas;by_cases hrf:B9 (Af xs) f.kind
       ·have Hin2:=Aa (show x.ty.sort≠69->∀f∈x.ty.fields.take (j+1),B9 (Af xs) f.kind from fun h g hg=>by
         rw[Hts2.o]at hg;rcases ae.1 hg with hg|hg
         ·exact hin2.o h g hg
         simp at hg;subst hg;exact hrf)
        rw[aA hrf]at Hhas;clear h69 hrf;go_wp2_with ((with_reducible refine wpList_load_mid (op:=⟨_,.load 85 _,_,_,_,none⟩) rfl 85 _ rfl b8 (o8+j*6) ?_ _ _ Hrg.o underlying85 ?_ ?_ ?_);rfl;rfl;kernel_rfl)
        refine(Hhas.o _ (Hbo2.o.alloc aE _)).mono ?_;rintro e w9 ⟨rfl,hb9⟩;have Hb9:=@Aa (Below wp wp w9) ((hbq.o.alloc hzq _).trans (hb9.mono aM));clear hb9;go_wp2_with fail;go_roundw
        case rel=>exact⟨j+1,by go_num,by omega,Hin2.o,Hb9.o⟩
        case measure=>simp[intOf];omega
       have Hend:=Aa (show Ci s=none by
        rw[HF2.o,if_neg];rintro⟨h,_⟩;exact hrf (h x.ty (am (f:=(·.ty)) Hmem.o) h69 f Hfm.o))
       rw[az hrf]at Hhas;clear h69 hrf;go_wp2_with ((with_reducible refine wpList_load_mid (op:=⟨_,.load 85 _,_,_,_,none⟩) rfl 85 _ rfl b8 (o8+j*6) ?_ _ _ Hrg.o underlying85 ?_ ?_ ?_);rfl;rfl;kernel_rfl)
       refine(Hhas.o _ (Hbo2.o.alloc aE _)).mono ?_;rintro e w9 ⟨rfl,hb9⟩;have Hb9:=@Aa (Below w w w9) ((Hbw.o.alloc Hbw.o.size _).trans (hb9.mono aM));clear hb9;go_wp2_with fail;go_ret2;exact Gr.no Hend.o rfl Hb9.o
      ·have j2:¬(j:Int)<(x.ty.fields.length:Int):=aE
       have Hin3:=Aa (show ∀y∈xs.take (k+1),y.ty.sort≠69->∀f∈y.ty.fields,B9 (Af xs) f.kind from fun y hy=>by
        rw[Hts.o]at hy;rcases ae.1 hy with hy|hy
        ·exact hin.o y hy
        simp at hy;subst hy;intro h f hf;exact hin2.o h f cv)
       go_wp2_with fail;go_roundw
       case rel=>exact⟨k+1,by go_num,by omega,Hin3.o,Hbo2.o⟩
       case measure=>simp[intOf];omega
    ·have k2:¬(k:Int)<(xs.length:Int):=aE
     have Hkinds:=Aa (show Gg (Af xs)from fun t ht h f hf=>by
      obtain⟨x,hx,rfl⟩:=au.1 ht;exact hin.o x (by rw[ap aE];exact hx) h f hf)
     have s9:=(hbp.o.cell (p:=⟨w.heap.size+1,0,none⟩) (show w.heap.size+1<wo.heap.size by omega)).trans S0.o;have HSP:=Aa (HSC.o.below hbp.o);have HrowP:=Aa (Hrow2.o.below hbp.o);have HbP:=@Aa (Below w w wp) (hbr.o.trans (hbp.o.mono aE));go_wp2_with fail;clear s9;go_loopw [116] (fun i wr=>∃m:Nat,i=.int .i64 m/\m<=xs.length/\Hid (∀x∈xs.take m,Bu (Af xs) 9 x.ty=true)/\Hid (Below wp wp wr)) (fun i _=>xs.length - (intOf i).toNat)
     case atStart=>exact⟨0,rfl,af _,by intro x hx;simp at hx,Ay _ _⟩
     case round=>
      obtain⟨m,rfl,hm,hin4,hbm⟩:=hrel;have m1:(0:Int)<=(m:Int):=aE;have HbM:=@Aa (Below w w wr) (HbP.o.trans (hbm.o.mono HbP.o.size));by_cases hml:m<xs.length
      ·have m2:(m:Int)<(xs.length:Int):=aE;obtain⟨bA,oA,rfl,hbA,cl⟩:=(HrowP.o.below hbm.o).at_ hml;rw[List.getElem_map]at cl;have Hts:=Aa (Bx xs m hml);have Hmem:=Aa (ad hml);generalize xs[m]=x at cl Hts Hmem;have Hends:=Aa (Qd3 _ xs x wr (HSP.o.below hbm.o).map (HSP.o.below hbm.o).tys Htok.o Hkinds.o Hmem.o);unfold PT.ptr at cl Hends;cases hee:Bu (Af xs) 9 x.ty with
       |true=>
        rw[hee]at Hends
        have Hin5:=Aa (show ∀y∈xs.take (m+1),Bu (Af xs) 9 y.ty=true from fun y hy=>by
         rw[Hts.o]at hy;rcases ae.1 hy with hy|hy
         ·exact hin4.o y hy
         simp at hy;subst hy;exact hee)
        clear hee;go_wp2_with fail;refine Hends.o.mono ?_;rintro e w9 ⟨rfl,hb9⟩;have Hb9:=Aa (hbm.o.trans (hb9.mono hbm.o.size));clear hb9;go_wp2_with fail;go_roundw
        case rel=>exact⟨m+1,by go_num,by omega,Hin5.o,Hb9.o⟩
        case measure=>simp[intOf];omega
       |false=>
        rw[hee]at Hends
        have Hend:=Aa (show Ci s=none by
         rw[HF2.o,if_neg];rintro⟨_,h⟩;have:=h x.ty (am (f:=(·.ty)) Hmem.o);rw[hee]at this;cases this)
        clear hee;go_wp2_with fail;refine Hends.o.mono ?_;rintro e w9 ⟨rfl,hb9⟩;have Hb9:=Aa (HbM.o.trans (hb9.mono HbM.o.size));clear hb9;go_wp2_with fail;go_ret2;exact Gr.no Hend.o rfl Hb9.o
      ·have m2:¬(m:Int)<(xs.length:Int):=aE
       have Hfin:=Aa (show Ci s=some (Af xs)by
        rw[HF2.o,if_pos];refine⟨Hkinds.o,fun t ht=>?_⟩;obtain⟨x,hx,rfl⟩:=au.1 ht;exact hin4.o x (by rw[ap aE];exact hx))
       go_wp2_with fail;go_ret2;exact Gr.yes Hfin.o rfl ((HSL.o.below hbp.o).below hbm.o) HbM.o
  ·have hu1:u.isEmpty=false:=dy;have hu2:(!u.isEmpty)=true:=dy;have hu3:(u == [])=false:=dy;have hu4:(u != [])=true:=dy
   have Hlin:=Aa (show Fl (s.length+1) s []=(if (Dc 10 u).2.2=false\/(Af xs).length=8 then none else match Ej (Dc 10 u).1 with
    |none=>none
    |some t=>if (Af xs).any (fun v=>decide (v.name=t.name))=true then none else Fl fuel (Dc 10 u).2.1 (Af xs++[t]))by rw[hlin.o,Fl,if_neg hu];rfl)
   have Hcut:=Aa (fun W=>Qn u 10 W aE);have hcl:=Kj 10 u;have hsh:(Dc 10 u).2.2=true->(Dc 10 u).2.1.length<u.length:=fun h=>by
    rcases E3 10 u with⟨_,e⟩|⟨p,t,e1,_,e⟩
    ·rw[e]at h;cases h
    rw[e];show t.length<u.length;rw[e1];simp;omega
   have Hsh:=Aa hsh;generalize Dc 10 u=q at *;obtain⟨ln,rest,told⟩:=q;simp only at hcl Hlin Hsh;have hcl1:=hcl.1;have hcl2:=hcl.2;clear hcl hu hlin hsh;go_wp2_with fail;refine(Hcut.o _).mono ?_;rintro e w1 ⟨rfl,k1,rfl⟩;unfold Y6;cases told with
   |false=>
    have Hend:=Aa (show Ci s=none by rw[HF.o,Hlin.o];simp);go_wp2_with fail;go_ret2;exact Gr.no Hend.o rfl (below_drewN hbr.o _)
   |true=>
    have hrl:=Hsh.o aI;rcases Nat.eq_or_lt_of_le hx8 with h8|h8
    ·have q1:((xs.length:Int) == 8)=true:=by simp[h8]
     have Hend:=Aa (show Ci s=none by rw[HF.o,Hlin.o];simp[Af,h8]);clear h8;go_wp2_with fail;go_ret2;exact Gr.no Hend.o rfl (below_drewN hbr.o _)
    have q1:((xs.length:Int) == 8)=false:=bK
    have Hlin2:=Aa (show Fl (s.length+1) s []=(match Ej ln with
     |none=>none
     |some t=>if (Af xs).any (fun v=>decide (v.name=t.name))=true then none else Fl fuel rest (Af xs++[t]))by rw[Hlin.o,if_neg (by simp[Af];omega)])
    have Htype:=Aa (fun W=>Ya ln W aE);have Htok:=Aa (fun t (h:Ej ln=some t)=>(Fe.1 h).1);clear Hlin;generalize Ej ln=ot at Hlin2 Htype Htok;go_wp2_with fail;refine(Htype.o _).mono ?_;rintro e w2 ⟨hcase,hb2⟩;have hbo:Below wo wo w2:=(below_drewN (Ay _ _) k1).trans (by simpa using hb2);have Hbo:=Aa hbo;cases ot with
    |none=>
     obtain⟨pp,rfl⟩:=hcase;have Hend:=Aa (show Ci s=none by rw[HF.o,Hlin2.o]);go_wp2_with fail;refine Bh [45,46,47,48,49,50,51,52,53,54,55,56,57,58] aJ aJ aJ (fun u=>by dsimp only[Bn,Bk,List.set,aj,Nat.reduceAdd])
      (fun i v W=>match i with|0=>v=.bool false|1=>v=.bool true|2=>v=.bool true|13=>v=.bool true|_=>True) (fun L U W=>∃q,W=(w2).drewN q) (fun _ _=>True) (fun _ _ _ _ _ h=>h) ⟨1,rfl⟩ ?_ ?_
     ·repeat (first|exact Ba.nil|(refine Ba.cons ?_ ?_;rotate_left))
      all_goals
       rintro L U W hL hpre ⟨q,rfl⟩ hun hdep K hK;clear hun hdep;first|(simp[Region.binds]at hpre;done)|simp[Region.binds]at hpre|clear hpre
       go_simp;first|exact hK _ _ _ rfl Ad ⟨q,rfl⟩ rfl|exact hK _ _ _ rfl Ad ⟨q,rfl⟩ aF|exact hK undef _ _ Ad Ad ⟨q,rfl⟩ aF|exact hK _ _ _ Ad Ad ⟨q,rfl⟩ rfl|exact hK _ _ _ Ad Ad ⟨q,rfl⟩ aF
     rintro L U W hL hφ ⟨q,rfl⟩;have e13:U 13=.bool true:=hφ 13 aH;simp only[e13];clear hφ hL;go_wp2_with fail;go_ret2;exact iL
    |some t=>
     obtain⟨x,hxt,rfl,hxb,hxty,hxf⟩:=hcase;subst hxt;have hxb2:wo.heap.size<=x.blk:=by simpa using hxb
     have hxz:x.blk<w2.heap.size:=hxty.1;have y1:w2.cell? (x.blk,1)=x.ty.name:=hxty.2.2.2.1;have u0:=(hbo.cell (p:=⟨w.heap.size+1,0,none⟩) (show w.heap.size+1<wo.heap.size by omega)).trans s0;have u1:=(hbo.cell (p:=⟨w.heap.size+1,1,none⟩) (show w.heap.size+1<wo.heap.size by omega)).trans s1;have Hnm2:=Aa (Dv.below hnm.o hbo);have Hxty:=Aa hxty;have Hxf:=Aa hxf;have Htk:=Aa (Htok.o x.ty rfl);have hnl:x.ty.name.length<=3:=(Ep.1 Htk.o.2.1).2.1;have hlook:∀q,(Instr.lookup 78 (.map (some w.heap.size)) x.ty.name false).run prog (w2.drewN q)=.ok (Rc (Ew xs x.ty.name)) (w2.drewN q):=fun q=>Fq (Dv.below Hnm2.o (below_drewN (Ay _ _) q)) x.ty.name aE;have hz2:wo.heap.size<=w2.heap.size:=hbo.size;clear hbo s0 s1 hxty hxf;unfold PT.ptr;cases hfp:Ew xs x.ty.name with
     |some z=>
      have Hend:=Aa (show Ci s=none by
       rw[HF.o,Hlin2.o];have:(Af xs).any (fun v=>decide (v.name=x.ty.name))=true:=by
        cases hh:(Af xs).any (fun v=>decide (v.name=x.ty.name))with
        |true=>rfl
        |false=>rw[T1.2 hh]at hfp;cases hfp
       simp[this])
      rw[hfp]at hlook;unfold Rc PT.ptr at hlook;clear hfp;go_wp2_with fail;refine Bh [45,46,47,48,49,50,51,52,53,54,55,56,57,58] aJ aJ aJ (fun u=>by dsimp only[Bn,Bk,List.set,aj,Nat.reduceAdd])
       (fun i v W=>match i with|0=>v=.bool true|1=>v=.bool false|2=>v=.bool false|3=>v=(w,1,0)|4=>v=(w,1,0)|5=>v=(w,1,1)|6=>v=.map (some w.heap.size)|7=>v=x.blk|8=>v=x.blk|9=>v=(x.blk,1)|10=>v=x.ty.name|11=>v=z.blk|12=>v=.bool true|13=>v=.bool true|_=>True) (fun L U W=>∃q,W=(w2).drewN q) (fun _ _=>True) (fun _ _ _ _ _ h=>h) ⟨1,rfl⟩ ?_ ?_
      ·exact fY
      rintro L U W hL hφ ⟨q,rfl⟩;have e13:U 13=.bool true:=hφ 13 aH;simp only[e13];clear hφ hL;go_wp2_with fail;go_ret2;exact iL
     |none=>
      have Hany:=Aa (T1.1 hfp);have Hfp:=Aa hfp;rw[hfp]at hlook;unfold Rc at hlook;clear hfp
      have Hlin3:=Aa (show Fl (s.length+1) s []=Fl fuel rest (Af (xs++[x]))by
       rw[Hlin2.o];show (if _ then _ else _)=_;rw[if_neg (by rw[Hany.o];decide)];simp[Af])
      go_wp2_with fail;refine Bh [45,46,47,48,49,50,51,52,53,54,55,56,57,58] aJ aJ aJ (fun u=>by dsimp only[Bn,Bk,List.set,aj,Nat.reduceAdd])
       (fun i v W=>match i with|0=>v=.bool true|1=>v=.bool false|2=>v=.bool false|3=>v=(w,1,0)|4=>v=(w,1,0)|5=>v=(w,1,1)|6=>v=.map (some w.heap.size)|7=>v=x.blk|8=>v=x.blk|9=>v=(x.blk,1)|10=>v=x.ty.name|11=>v=.pointer none|12=>v=.bool false|13=>v=.bool false|_=>True) (fun L U W=>∃q,W=(w2).drewN q) (fun _ _=>True) (fun _ _ _ _ _ h=>h) ⟨1,rfl⟩ ?_ ?_
      ·exact fY
      rintro L U W hL hφ ⟨q,rfl⟩;have e13:U 13=.bool false:=hφ 13 aH;simp only[e13];clear hφ hL;obtain⟨w3,hw3⟩:∃w3,w3=w2.drewN q:=⟨_,rfl⟩
      rw[<-hw3];have hb3:Below wo wo w3:=by rw[hw3];exact below_drewN Hbo.o _
      have hb23:Below w2 w2 w3:=by rw[hw3];exact below_drewN (Ay _ _) _
      have Hx3:=Aa (Hxty.o.below hb23);have hown3:=Bm hown.o hb3;have hT3:=Av hT.o (show w.heap.size+1<wo.heap.size by omega) hb3;have hK3:=Bt hK.o (show w.heap.size+1<wo.heap.size by omega) hb3;have hz3:wo.heap.size<=w3.heap.size:=hb3.size;have v0:w3.cell? (w,1,0)=some (.slice A xs.length cA):=by simpa using Ab hT3 0 rfl
      have Hb3:=Aa hb3;have Hown3:=Aa hown3;have HT3:=Aa hT3;have HK3:=Aa hK3;have Hnm3:=Aa (Dv.below Hnm2.o hb23);have Hb23:=Aa hb23;clear hlook hb3 hown3 hT3 hK3 hw3 hb23 u0 u1 y1;go_wp2_with (at_builtin;refine Dg _ rfl _ _ 77 rfl (w.heap.size+2) 76 (.pointer none) 8 underlying77 Tryz.infoPt rfl w3 x.blk rfl rfl (.slice A xs.length cA) xs.length (xs.map (·.ptr)) rfl rfl Hown3.o aW aE aE ?_;intro v5 w5 hown5 hg5 hwh;have hb5:Below (w.heap.size+2) w3 w5:=(Ay _ _).grown hg5 aE (fun k hk=>(Hown3.o.lt k hk).1);have HT5:=Aa (Av HT3.o (show w.heap.size+1<w.heap.size+2 by omega) hb5);have HK5:=Aa (Bt HK3.o (show w.heap.size+1<w.heap.size+2 by omega) hb5);have Hnm5:=Aa (Dv.belowAt Hnm3.o (show w.heap.size<w.heap.size+2 by omega) hb5);have Hty5:=Aa (Ti.push hty.o Hb3.o hown.o Hx3.o hxb2 (fun k hk=>(by have:=Hxf.o k hk;simpa using this)) aE hg5 hwh);obtain⟨A5,n5,c5,e5⟩:=Xi hown5;subst e5;have Hown5:=Aa hown5;have Hb5:=Aa hb5;have p0:w5.cell? (w,1,0)=some (.slice A xs.length cA):=(by simpa using Ab HT5.o 0 rfl);have f0:w5.frozen? (w,1,0)=false:=(by simpa using(HK5.o 0 aH).2);have hz5:w3.heap.size<=w5.heap.size:=hg5.size;clear hown5 hg5 hwh hb5 v0)
      obtain⟨w6,hw6⟩:∃w6,w6=w5.setCell ⟨w.heap.size+1,0,none⟩ (.slice A5 n5 c5):=⟨_,rfl⟩
      rw[<-hw6];have hg6:w5.grownBy w6 (some (w.heap.size+1)):=by rw[hw6];exact Rp _ _ _
      have hT6:w6.rangeAt (w.heap.size+1) 0 [.slice A5 n5 c5,.map (some w.heap.size)]:=by rw[hw6];exact Db [] [.slice A xs.length cA] [.map (some w.heap.size)] [.slice A5 n5 c5] HT5.o rfl
      have hK6:w6.there (w.heap.size+1) 0 2:=by rw[hw6];exact ah HK5.o (w.heap.size+1) 0 [.slice A5 n5 c5]
      have Hown6:=Aa (Hown5.o.kept hg6 (.inr (fun e=>by have:=(Hown5.o.lt _ e).1;omega)));have Hnm6:=Aa (Dv.kept Hnm5.o hg6 aI);have Hty6:=Aa (Hty5.o.far hg6 aE);have Hb6:=@Aa (Below w w w6) (((hbr.o.trans (Hb3.o.mono aE)).trans (Hb5.o.mono aE)).trans (by rw[hw6];exact(Ay _ _).setCell aI _));have hz6:w.heap.size+2<=w6.heap.size:=ac aE hg6.size;have m1:w6.cell? (w,1,1)=some (.map (some w.heap.size)):=by simpa using Ab hT6 1 rfl
      have n1:w6.cell? (x.blk,1)=x.ty.name:=(Hty6.o.1 x aI).1.2.2.2.1;have HT6:=Aa hT6;have HK6:=Aa hK6;clear hw6 hg6 hT6 hK6 p0 f0;refine Bh [69,70,71,72,73,74,75,76,77,999] aJ aJ aJ (fun u=>by dsimp only[Bn,Bk,List.set,aj,Nat.reduceAdd])
       (fun i v W=>match i with|0=>v=(w,1,0)|1=>v=(w,1,0)|2=>v=(w,1,1)|3=>v=.map (some w.heap.size)|4=>v=x.blk|5=>v=x.blk|6=>v=(x.blk,1)|7=>v=x.ty.name|8=>v=x.blk|_=>True) (fun L U W=>∃q,(L 9=false->W=w6.drewN q)/\(L 9=true->(w6.drewN q).grownBy W (some w.heap.size)/\Pc W w.heap.size (xs++[x]))) (fun _ _=>True) (fun _ _ _ _ _ h=>h) ⟨1,fun _=>rfl,by simp⟩ ?_ ?_
      ·repeat (first|exact Ba.nil|(refine Ba.cons ?_ ?_;rotate_left))
       all_goals
        rintro L U W hL hpre ⟨q,hq1,hq2⟩ hun hdep K hK;have Hdep:=Aa hdep;have Hq2:=Aa hq2;clear hun hdep hq2;first|(simp[Region.binds]at hpre;done)|simp[Region.binds]at hpre|clear hpre
       ·obtain rfl:=hq1 (Ce Hdep.o 9 3 rfl (Ce Hdep.o 3 2 rfl (Ce Hdep.o 2 1 rfl (Ce Hdep.o 1 0 rfl hL))));exact iM
       ·obtain rfl:=hq1 (Ce Hdep.o 9 3 rfl (Ce Hdep.o 3 2 rfl (Ce Hdep.o 2 1 rfl hL)));exact iM
       ·obtain rfl:=hq1 (Ce Hdep.o 9 3 rfl (Ce Hdep.o 3 2 rfl hL));exact iM
       ·obtain rfl:=hq1 (Ce Hdep.o 9 3 rfl hL);exact iM
       ·obtain rfl:=hq1 (Ce Hdep.o 9 7 rfl (Ce Hdep.o 7 6 rfl (Ce Hdep.o 6 5 rfl (Ce Hdep.o 5 4 rfl hL))));exact iM
       ·obtain rfl:=hq1 (Ce Hdep.o 9 7 rfl (Ce Hdep.o 7 6 rfl (Ce Hdep.o 6 5 rfl hL)));exact iM
       ·obtain rfl:=hq1 (Ce Hdep.o 9 7 rfl (Ce Hdep.o 7 6 rfl hL));exact iM
       ·obtain rfl:=hq1 (Ce Hdep.o 9 7 rfl hL);exact iM
       ·obtain rfl:=hq1 (Ce Hdep.o 9 8 rfl hL);exact iM
       ·obtain rfl:=hq1 hL;obtain⟨w7,hrun,r1,r2⟩:=Dv.store (Dv.below Hnm6.o (below_drewN (Ay _ _) q)) Tryz.keyStr underlying78 aW x.blk (Qcq (n:=x.ty.name) aE);have hn7:Pc w7 w.heap.size (xs++[x]):=by
         unfold Pc;rw[ag];exact r1.of_eq (fun l hl=>Qav Hfp.o l hl)
        have R2:=Aa r2;have Hn7:=Aa hn7;clear r1 r2 hn7;go_simp;exact hK undef _ _ Ad Ad ⟨q,fun h=>by simp at h,fun _=>⟨R2.o,Hn7.o⟩⟩ aF
      rintro L U W hL hφ ⟨q,_,hq2⟩;obtain⟨hg7,hn7⟩:=hq2 (hL 9 aH);have hzq:w6.heap.size<=W.heap.size:=by have:=hg7.size;simpa using this
      have hb7:Below w w W:=(below_drewN Hb6.o q).grown hg7 aM (fun k hk=>by injection hk with hk;omega);have HT7:=Aa (Bj (Av HT6.o (show w.heap.size+1<w6.heap.size by omega) (below_drewN (Ay _ _) q)) hg7 aI);have HK7:=Aa (Jo (Bt HK6.o (show w.heap.size+1<w6.heap.size by omega) (below_drewN (Ay _ _) q)) hg7 aM aI);have Hown7:=Aa ((Bm Hown6.o (below_drewN (Ay _ _) q)).kept hg7 (.inr (fun e=>by have:=(Hown6.o.lt _ e).1;omega)));have Hty7:=Aa ((Hty6.o.below (below_drewN (Ay _ _) q)).far hg7 aE);have Hn7:=Aa hn7;have Hb7:=Aa hb7;clear hL hφ hq2 hg7 hn7 hb7 m1 n1;go_wp2_with fail;go_roundw
      case rel=>exact⟨rest,fuel,xs++[x],.slice A5 n5 c5,rfl,by omega,by omega,Hlin3.o,by simp;omega,HT7.o,HK7.o,by rw[ag,aw];exact Hown7.o,Hn7.o,Hty7.o,Hb7.o,by omega⟩
      case measure=>rw[Jy,Jy];omega
theorem Tz(s:List UInt8)(w:World)(hs:s.length<=4000000):
  Calls prog 52 #[s] w (Gr (Ci s) w):=by
 by_cases h:400<s.length
 ·exact Xy s w hs h
 exact Qbt s w aE
theorem Ke(b:Nat):∀(vs:List Value) (o:Nat) (w:World),w.grownBy (w.setCells b o vs) (some b)
 |[],_,w=>World.grownBy.refl _ _
 |v::r,o,w=>(Rp w ⟨b,o,none⟩ v).trans (Ke b r (o+1) _)
def Qb(o:Option (List Ty × Kd))(w:World)(e:Ending)(w':World):Prop:=
 (match o with
  |some x=>∃p xs,Af xs=x.1/\e=.returned (.tuple #[p,Gb x.2,.bool true])/\Za w.heap.size w' p xs
  |none=>∃(p:Option Addr) (a b c:ByteArray),e=.returned (.tuple #[.pointer p,.agg #[.string a,.string b,.string c],.bool false]))/\Below w w w'
theorem Qb.no{w w':World}{e:Ending}{o:Option (List Ty × Kd)}(ho:o=none){p:Option Addr}{a b c:ByteArray}(he:e=.returned (.tuple #[.pointer p,.agg #[.string a,.string b,.string c],.bool false]))(hb:Below w w w'):Qb o w e w':=by
 rw[ho];exact⟨⟨p,a,b,c,he⟩,hb⟩
theorem Qdn(s d:List UInt8)(w:World)(hs:s.length<=4000000)(hd:d.length<=4000000):
  Calls prog 23 #[s,d] w (Qb (D3 s d) w):=by
 have Hrs:=Aa (fun W=>Tz s W hs);have Hrk:=Aa (fun W=>Qp d W hd);have HF:=@Aa (D3 s d=(match Ci s with|none=>none|some S=>match Co d with|none=>none|some k=>if B9 S k then some (S,k)else none)) rfl;have Hkok:=Aa (fun k (h:Co d=some k)=>(Er.1 h).1);generalize Ci s=oS at HF Hrs;generalize Co d=oK at HF Hrk Hkok;go_enter func23,ntmps23;go_wp2_with fail;refine(Hrs.o _).mono ?_;rintro e w1 ⟨hcase,hb1⟩;have hz1:w.heap.size<w1.heap.size:=fh;have HT1:=@Aa (w1.there w 0 3) (Bt (D2 w [a8,a8,a8] 39) aI hb1);have Hb1:=@Aa (Below w w w1) (((Ay _ _).alloc (As _) _).trans (hb1.mono aI));clear hb1;cases oS with
 |none=>
  obtain⟨p,rfl⟩:=hcase;go_wp2_with ((with_reducible refine Ac (op:=⟨none,.store 39 _ _,_,_,_,none⟩) rfl 39 _ _ rfl w 0 [a8,a8,a8] ?_ ?_ ?_ ?_ ?_ ?_);rfl;rfl;(exact HT1.o);kernel_rfl;(simp[Value.oneCell']);intro w9 HS9)
  have HZ:=@Aa (w9.rangeAt w 0 [a8,a8,a8]) (by rw[HS9.o];exact aa _ _ _ _ HT1.o);refine aC (v:=.tuple #[.pointer none,.agg ([a8,a8,a8]:List Value).toArray,.bool false]) ?_ rfl ?_
  ·exact Ft results23 _ _ w.heap.size [a8,a8,a8] _ _ _ rfl rfl rfl HZ.o underlying39 rfl aJ
  exact Qb.no HF.o rfl (by rw[HS9.o];exact Aw _ (As _) _ _ _ Hb1.o)
 |some S=>
  obtain⟨p,xs,hxs,rfl,hsl⟩:=hcase;subst hxs;have Hsl:=@Aa (Za (w.heap.size+1) w1 p xs) (by simpa using hsl);obtain⟨pb,_,_,_,hp,_⟩:=hsl;subst hp;go_wp2_with fail;refine(Hrk.o _).mono ?_;rintro e w2 ⟨hcase,hb2⟩;cases oK with
  |none=>
   obtain⟨a1,a2,a3,rfl⟩:=hcase;have hz4:w2.heap.size<(w2.alloc (.cells #[.string a1,.string a2,.string a3] 39)).heap.size:=aI;have hz2:w.heap.size<w2.heap.size:=by have:=hb2.size;omega
   have HT4:=@Aa ((w2.alloc (.cells #[.string a1,.string a2,.string a3] 39)).there w 0 3) (ao (Bt HT1.o hz1 hb2) _);have HX4:=@Aa ((w2.alloc (.cells #[.string a1,.string a2,.string a3] 39)).rangeAt w2 0 [.string a1,.string a2,.string a3]) (Ch w2 [.string a1,.string a2,.string a3] _);have Hsl4:=@Aa (Za (w.heap.size+1) (w2.alloc (.cells #[.string a1,.string a2,.string a3] 39)) pb xs) ((Hsl.o.below hb2).below ((Ay _ _).alloc (As _) _));have Hb4:=@Aa (Below w w (w2.alloc (.cells #[.string a1,.string a2,.string a3] 39))) ((Hb1.o.trans (hb2.mono Hb1.o.size)).alloc aE _);clear hb2;go_wp2_with fail;refine Bh [23,24,25,26,27,28,29,30,4,999,6] aJ aJ aJ (fun u=>by dsimp only[Bn,Bk,List.set,aj,Nat.reduceAdd])
    (fun i v W=>match i with|0=>v=pb|1=>v=.agg ([.string a1,.string a2,.string a3]:List Value).toArray|2=>v=.bool false|3=>v=.bool false|7=>v=.bool false|8=>v=pb|10=>v=.bool false|_=>True) (fun L U W=>Below w w W/\w2.heap.size<W.heap.size/\W.there w 0 3/\W.rangeAt w2 0 [.string a1,.string a2,.string a3]/\Za (w.heap.size+1) W pb xs/\(L 9=true->W.rangeAt w 0 [.string a1,.string a2,.string a3])) (fun _ _=>True) (fun _ _ _ _ _ h=>h) ⟨Hb4.o.drew,by simp,by simpa using HT4.o,by simpa using HX4.o,Hsl4.o.below ((Ay _ _).drew),by simp⟩ ?_ ?_
   ·repeat (first|exact Ba.nil|(refine Ba.cons ?_ ?_;rotate_left))
    all_goals
     rintro L U W hL hpre hR hun hdep K hK;have HR:=Aa hR;obtain⟨_,_,_,hxr,_,_⟩:=hR;have c0:W.cell? (w2,0)=some (.string a1):=by simpa using Ab hxr 0 rfl
     have c1:W.cell? (w2,1)=some (.string a2):=by simpa using Ab hxr 1 rfl
     have c2:W.cell? (w2,2)=some (.string a3):=by simpa using Ab hxr 2 rfl
     clear hun hdep hxr;first|(simp[Region.binds]at hpre;done)|simp[Region.binds]at hpre|clear hpre
    iterate 9 exact fK
    ·obtain⟨r1,r2,r3,r4,r5,r6⟩:=HR.o;rw[if_pos cx];refine wp_store_mid 39 _ _ rfl w 0 ([.string a1,.string a2,.string a3]:List Value).toArray rfl hpre.1.2 r3 aJ bY ?_;exact iN
    ·exact fK
   rintro L U W hL hφ ⟨r1,r2,r3,r4,r5,r6⟩;have e8:U 8=pb:=hφ 8 aH;have e10:U 10=.bool false:=hφ 10 aH;have hr0:=r6 (hL 9 aH);simp only[e8,e10];have R1:=Aa r1;have R5:=Aa r5;have R0:=Aa hr0;clear hL hφ r1 r2 r3 r4 r5 r6 hr0;go_wp2_with fail;refine aC (v:=.tuple #[pb,.agg ([.string a1,.string a2,.string a3]:List Value).toArray,.bool false]) ?_ rfl ?_
   ·exact Ft results23 _ _ w.heap.size [.string a1,.string a2,.string a3] _ _ _ rfl rfl rfl R0.o underlying39 rfl aJ
   exact Qb.no HF.o rfl R1.o
  |some k=>
   have hcase':e=.returned (.tuple #[.agg #[k.signs,k.base,k.name],.bool true]):=hcase;subst hcase';clear hcase;have hkn:k.name.length<=100:=ac (Gs (Hkok.o k rfl)) aH;have hz4:w2.heap.size<(w2.alloc (.cells #[k.signs,k.base,k.name] 39)).heap.size:=aI;have hz2:w.heap.size<w2.heap.size:=by have:=hb2.size;omega
   have HT4:=@Aa ((w2.alloc (.cells #[k.signs,k.base,k.name] 39)).there w 0 3) (ao (Bt HT1.o hz1 hb2) _);have HX4:=@Aa ((w2.alloc (.cells #[k.signs,k.base,k.name] 39)).rangeAt w2 0 [k.signs,k.base,k.name]) (Ch w2 [k.signs,k.base,k.name] _);have Hsl4:=@Aa (Za (w.heap.size+1) (w2.alloc (.cells #[k.signs,k.base,k.name] 39)) pb xs) ((Hsl.o.below hb2).below ((Ay _ _).alloc (As _) _));have Hb4:=@Aa (Below w w (w2.alloc (.cells #[k.signs,k.base,k.name] 39))) ((Hb1.o.trans (hb2.mono Hb1.o.size)).alloc aE _);clear hb2;go_wp2_with fail;have HF3:=@Aa (D3 s d=if B9 (Af xs) k then some (Af xs,k)else none) HF.o;refine Bh [23,24,25,26,27,28,29,30,4,999,6] aJ aJ aJ (fun u=>by dsimp only[Bn,Bk,List.set,aj,Nat.reduceAdd])
    (fun i v W=>match i with|0=>v=pb|1=>v=.agg ([k.signs,k.base,k.name]:List Value).toArray|2=>v=.bool true|3=>v=.bool true|4=>v=pb|5=>v=.agg ([k.signs,k.base,k.name]:List Value).toArray|6=>v=.bool (decide (B9 (Af xs) k))|7=>v=.bool (decide (B9 (Af xs) k))|8=>v=pb|10=>v=.bool (decide (B9 (Af xs) k))|_=>True) (fun L U W=>Below w w W/\w2.heap.size<W.heap.size/\W.there w 0 3/\W.rangeAt w2 0 [k.signs,k.base,k.name]/\Za (w.heap.size+1) W pb xs/\(L 9=true->W.rangeAt w 0 [k.signs,k.base,k.name])) (fun _ _=>True) (fun _ _ _ _ _ h=>h) ⟨Hb4.o.drew,by simp,by simpa using HT4.o,by simpa using HX4.o,Hsl4.o.below ((Ay _ _).drew),by simp⟩ ?_ ?_
   ·repeat (first|exact Ba.nil|(refine Ba.cons ?_ ?_;rotate_left))
    all_goals
     rintro L U W hL hpre hR hun hdep K hK;have HR:=Aa hR;obtain⟨_,_,_,hxr,_,_⟩:=hR;have c0:W.cell? (w2,0)=k.signs:=by simpa using Ab hxr 0 rfl
     have c1:W.cell? (w2,1)=k.base:=by simpa using Ab hxr 1 rfl
     have c2:W.cell? (w2,2)=k.name:=by simpa using Ab hxr 2 rfl
     clear hun hdep hxr;first|(simp[Region.binds]at hpre;done)|simp[Region.binds]at hpre|clear hpre
    iterate 6 exact fK
    ·go_simp;obtain⟨r1,r2,r3,r4,r5,r6⟩:=HR.o;refine(Z5 _ xs k W r5.isc.map hkn).mono ?_;rintro e w5 ⟨rfl,hb5⟩;exact hK (.bool (decide (B9 (Af xs) k))) _ _ rfl Ad ⟨r1.trans (hb5.mono r1.size),ab r2 hb5.size,Bt r3 (show w.heap.size<W.heap.size by omega) hb5,Av r4 r2 hb5,r5.below hb5,fun h=>Av (r6 h) (show w.heap.size<W.heap.size by omega) hb5⟩ aF
    ·exact fK
    ·exact fK
    ·obtain⟨r1,r2,r3,r4,r5,r6⟩:=HR.o;rw[if_pos cx];refine wp_store_mid 39 _ _ rfl w 0 ([k.signs,k.base,k.name]:List Value).toArray rfl hpre.1.2 r3 aJ bY ?_;exact iN
    ·exact fK
   rintro L U W hL hφ ⟨r1,r2,r3,r4,r5,r6⟩;have e8:U 8=pb:=hφ 8 aH;have e10:U 10=.bool (decide (B9 (Af xs) k)):=hφ 10 aH;have hr0:=r6 (hL 9 aH);simp only[e8,e10];have R1:=Aa r1;have R5:=Aa r5;have R0:=Aa hr0;clear hL hφ r1 r2 r3 r4 r5 r6 hr0;go_wp2_with fail;refine aC (v:=.tuple #[pb,.agg ([k.signs,k.base,k.name]:List Value).toArray,.bool (decide (B9 (Af xs) k))]) ?_ rfl ?_
   ·exact Ft results23 _ _ w.heap.size [k.signs,k.base,k.name] _ _ _ rfl rfl rfl R0.o underlying39 rfl aJ
   by_cases hr:B9 (Af xs) k
   ·rw[aA hr];unfold Qb;rw[HF3.o,if_pos hr]
    exact⟨⟨_,xs,rfl,rfl,by
     obtain⟨b,A,c,mb,q0,q1,q2,q3,q4,q5,q6,q7,l1,l2,l3,l4⟩:=R5.o;exact⟨b,A,c,mb,q0,q1,q2,q3,q4,q5,q6,q7,by omega,by omega,fun g o h1 h2=>by have:=l3 g o h1 h2;omega,fun x hx=>⟨by have:=(l4 x hx).1;omega,fun k h1 h2=>by have:=(l4 x hx).2 k h1 h2;omega⟩⟩⟩,R1.o⟩
   rw[az hr];exact Qb.no (HF3.o.trans (if_neg hr)) rfl R1.o
def H7(B:Nat)(w:World)(v:Value):Option Fd->Prop
 |none=>v=.pointer none
 |some f=>∃b o,v=.pointer (some ⟨b,o,none⟩)/\b<B/\w.rangeAt b o (Qx f)
theorem H7.below{B:Nat}{w w':World}{v:Value}{o:Option Fd}(h:H7 B w v o)(hb:Below B w w'):H7 B w' v o:=by
 cases o with
 |none=>exact h
 |some f=>obtain⟨b,o,e,h1,h2⟩:=h;exact⟨b,o,e,h1,Av h2 h1 hb⟩
def Qcf(B:Nat)(o:Option Fd)(w:World)(e:Ending)(w':World):Prop:=∃v,e=.returned v/\H7 B w v o/\w=w'
theorem Tb(w0:World)(x:PT)(hx:So w0 x)(n:Nat)(w:World)(hb:Below w0 w0 w)(hn:n<=1000000000):
  Calls prog 38 #[x.blk,.int .i64 n] w (Qcf w0.heap.size (Bp x.ty.fields n) w):=by
 obtain⟨z0,_,_,_,z3,_,A,c,hfv,hl,hr⟩:=hx;rw[hfv]at z3;have c2:w.cell? (x.blk,2)=some (.slice A x.ty.fields.length c):=(hb.cell (p:=⟨x.blk,2,none⟩) z0).trans z3;have Hr:=Aa hr;have Hb:=Aa hb;clear hr hfv z3 hb;go_enter func38,ntmps38;go_wp2_with fail;go_loop [11] (fun i=>∃k:Nat,i=.int .i64 k/\k<=x.ty.fields.length/\Hid (∀f∈x.ty.fields.take k,decide (f.tag=n)=false)) (fun i=>x.ty.fields.length - (intOf i).toNat)
 case atStart=>exact⟨0,rfl,af _,by intro f hf;simp at hf⟩
 case round=>
  obtain⟨k,rfl,hk,hin⟩:=hrel;by_cases hlt:k<x.ty.fields.length
  ·obtain⟨b,off,rfl,hbl,hrg⟩:=Sx.range Hr.o hlt;have hrw:=Av hrg hbl Hb.o;have Hts:=Aa (Bx x.ty.fields k hlt);have Hft:=Aa (Pk (p:=fun f=>decide (f.tag=n)) hlt hin.o);generalize x.ty.fields[k]=f at hrg hrw Hts Hft;have c0:w.cell? ⟨b,off+k*6,none⟩=(f.tag:Int):=by simpa using Ab hrw 0 rfl
   have Hrw:=Aa hrw;clear hrw hrg;have k1:(0:Int)<=(k:Int):=aE;have k2:(k:Int)<(x.ty.fields.length:Int):=aE;by_cases he:f.tag=n
   ·have t1:((f.tag:Int) == (n:Int))=true:=by simp[he]
    have Hfin:=Aa (show Bp x.ty.fields n=some f by unfold Bp;rw[Hft.o,if_pos cu]);clear he;go_wp2_with fail;exact iO
   have t1:((f.tag:Int) == (n:Int))=false:=bK
   have Hin:=Aa (show ∀g∈x.ty.fields.take (k+1),decide (g.tag=n)=false by
    intro g hg;rw[Hts.o]at hg;rcases ae.1 hg with hg|hg
    ·exact gZ
    simp at hg;subst hg;simpa using he)
   clear he;go_wp2_with fail;go_round
   case rel=>exact⟨k+1,by go_num,by omega,Hin.o⟩
   case measure=>simp[intOf];omega
  ·have Hfin:=@Aa (Bp x.ty.fields n=none) (Ji (fun f hf=>hin.o f cv));go_wp2_with fail;go_ret;exact⟨_,rfl,by rw[Hfin.o];rfl,rfl⟩
theorem Yr(p:Value)(c:UInt8)(t:List UInt8)(b nm:ByteArray)(w:World)(hc:c=91\/c=63)(hl:t.length<=1000):
  Calls prog 162 #[p,.agg #[.string ⟨(c::t).toArray⟩,.string b,.string nm]] w (Fp (Qcz c) w):=by
 rcases hc with rfl|rfl
 ·go_enter func162,ntmps162;go_wp2_with fail;refine(Fr 91 t hl _ _ _).mono ?_;rintro e w1 ⟨rfl,hb1⟩;go_wp2_with fail;exact iP
 go_enter func162,ntmps162;go_wp2_with fail;refine(Fr 63 t hl _ _ _).mono ?_;rintro e w1 ⟨rfl,hb1⟩;go_wp2_with fail;exact iP
theorem T4(p:Value)(b:List UInt8)(nm:ByteArray)(w:World)(hb:b=[110]\/b=[116]\/b=[102]):
  Calls prog 162 #[p,.agg #[a8,b,.string nm]] w (Fp (Tf b) w):=by
 rcases hb with rfl|rfl|rfl<;>
 ·go_enter func162,ntmps162;go_wp2_with fail;refine(El _ _ _).mono ?_;rintro e w1 ⟨rfl,hb1⟩;obtain⟨hc1,_,_⟩:=B4 hb1;have y1:=hc1 w 1 aI;simp at y1;clear hc1;have Hb1:=Aa (((Ay w.heap.size w).alloc (As _) _).trans (hb1.mono aI));clear hb1;go_wp2_with fail;go_ret;exact⟨rfl,Hb1.o⟩
def kcs(k:Kd):List Value:=[k.signs,k.base,k.name]
def Em(v:Vl)(sl:Value):List Value:=[.int .u8 (v.what.toNat:Int),v.text,(v.tag:Int),sl]
def Ev(w:World)(b:Nat)(p:Value)(k:Kd)(t:List UInt8)(bad:Bool)(W:World):Prop:=
 Da w b p t bad W/\W.rangeAt w 0 (kcs k)/\W.there (w.heap.size+1) 0 4/\w.heap.size+1<W.heap.size
theorem Ev.init{w:World}{b:Nat}{p:Value}{k:Kd}{t:List UInt8}{bad:Bool}(h:Dp w b p t bad){T U:TypeId}:Ev w b p k t bad ((w.alloc (.cells #[k.signs,k.base,k.name] T)).alloc (.cells #[.int .u8 0,a8,.int .i64 0,.slice none 0 0] U)):=by
 have h1:Below w w ((w.alloc (.cells #[k.signs,k.base,k.name] T)).alloc (.cells #[.int .u8 0,a8,.int .i64 0,.slice none 0 0] U)):=((Ay _ _).alloc (As _) _).alloc aI _;refine⟨⟨h.grow h1,Cv h1 _⟩,?_,?_,by simp⟩
 ·have:=Av (Ch w (kcs k) T) (show w.heap.size<(w.alloc (.cells (kcs k).toArray T)).heap.size by simp) ((Ay _ _).alloc (As _) (.cells #[.int .u8 0,a8,.int .i64 0,.slice none 0 0] U));exact this
 have:=D2 (w.alloc (.cells #[k.signs,k.base,k.name] T)) [.int .u8 0,a8,.int .i64 0,.slice none 0 0] U;simpa using this
theorem Ev.post{w W W':World}{b:Nat}{p:Value}{k:Kd}{t:List UInt8}{bad:Bool}(h:Ev w b p k t bad W)(hb:Below W W W'):Ev w b p k t bad W':=
 ⟨h.1.post hb,Av h.2.1 (by have:=h.2.2.2;omega) hb,Bt h.2.2.1 h.2.2.2 hb,ab h.2.2.2 hb.size⟩
theorem Ev.step{w W W':World}{b:Nat}{p:Value}{k:Kd}{t t':List UInt8}{bad bad':Bool}(h:Ev w b p k t bad W)(hb:b<w.heap.size)(hs:Da W b p t' bad' W'):Ev w b p k t' bad' W':=
 ⟨h.1.trans hs,Bj h.2.1 hs.2 aM,Jo h.2.2.1 hs.2 h.2.2.2 aM,ab h.2.2.2 hs.2.size⟩
theorem Ev.fin{w W w9:World}{b N:Nat}{p:Value}{k:Kd}{t t':List UInt8}{bad':Bool}{v:Vl}{sl:Value}{r:Option (Vl × List UInt8)}(F:Ev w b p k t' bad' W)(hb:b<w.heap.size)(HS:w9=W.setCells (w.heap.size+1) 0 (Em v sl))
  (hv:D1 (fun c=>w.heap.size+2<=c) W sl v.kids) (hr:bad'=r.isNone) (hx:∀x,r=some x->v=x.1/\t'=x.2) (hB:Bd v) (hl:t'.length<=t.length) (hn:(Au v).length+t'.length<=t.length+8*N):
  Kh w b p t N r (.returned (.agg (Em v sl).toArray)) w9/\w9.rangeAt (w.heap.size+1) 0 (Em v sl):=by
 subst HS hr;exact⟨⟨v,sl,t',rfl,(hv.set (B:=w.heap.size+1) aE _).mono fun c hc _=>by omega,F.1.set aE aE _,hx,hB,hl,hn⟩,aa _ _ _ _ F.2.2.1⟩
theorem T0(b N:Nat)(p:Value)(t:List UInt8)(k:Kd)(w:World)(h:Dp w b p t true):
  Calls prog 57 #[b,Gb k] w (Kh w b p t N none):=by
 have HS:=Aa h;obtain⟨h0,h1,h2,h3,h4⟩:=h;have hbn:¬(b=w.heap.size):=aE;have hbn2:¬(b=w.heap.size+1):=aE;unfold Gb;clear h1 h2 h3;go_enter func57,ntmps57;go_wp2_with fail;have F:=(Ev.init (k:=k) HS.o (T:=39) (U:=42)).1;refine aC (v:=.agg (Em H5 (.slice none 0 0)).toArray) ?_ rfl ⟨H5,.slice none 0 0,t,rfl,D1.nil _ _,F,aI,Ey aH aH,As _,by simp[H5,Au,Cs,Ez]⟩;refine Ag results57 _ _ (w.heap.size+1) _ _ rfl ?_ underlying42 rfl aJ;have:=Ch (w.alloc (.cells #[k.signs,k.base,k.name] 39)) [.int .u8 0,a8,.int .i64 0,.slice none 0 0] 42;simpa [Em,H5,Vl.what,Vl.text,Vl.tag]using this
theorem Zi(t:List UInt8):P8 t=if Gj 999999 t then some (G8 t,t.dropWhile Bg)else none:=by
 unfold P8 Gj G8;cases h:Cn (t.takeWhile Bg)with
 |none=>simp
 |some n=>simp[(Cb.1 h).1]
theorem X8(t:List UInt8):G8 t<=999999:=by
 unfold G8;cases h:Cn (t.takeWhile Bg)with
 |none=>simp
 |some n=>exact(Cb.1 h).1
theorem Nd(p:UInt8->Bool)(t:List UInt8):(t.dropWhile p).length<=t.length:=(Ns p t).2
theorem Qf4(b N:Nat)(p:Value)(t:List UInt8)(k:Kd)(w:World)(h:Dp w b p t false)(hl:t.length<=900)(hs:k.signs=[])(hb:k.base=[110])(q:Option (Vl × List UInt8))(hq:q=match P8 t with|some (n,r)=>some (.mk 110 (Az n) 0 [],r)|none=>none):
  Calls prog 57 #[b,Gb k] w (Kh w b p t (N+1) q):=by
 have HQ:=Aa hq;have HS:=Aa h;have hb0:=h.1;have hbn:¬(b=w.heap.size):=aE;have hbn2:¬(b=w.heap.size+1):=aE;have c2:=h.2.2.2.2;clear hq;obtain⟨sg,bs,nm⟩:=k;simp only at hs hb;have HN:=Aa (Zi t);have hnn:=X8 t;have Hn:=Aa (fun W (h:Dp W b p t false)=>Nw b 999999 p t false W h aE aH);have Hd:=Aa (fun W=>Pe (G8 t) (G8 t) W (As _) aE);have hdl:=Df 5 (G8 t) dA;have hdr:=Nd Bg t;generalize G8 t=n at *;generalize Gj 999999 t=ok at *;generalize t.dropWhile Bg=r at *;subst hs hb;unfold Gb;simp only;clear h;go_enter func57,ntmps57;go_wp2_with fail;refine(El _ _ _).mono ?_;rintro e w2 ⟨rfl,hb2⟩;have F2:=Aa ((Ev.init (k:=⟨[],[110],nm⟩) HS.o).post hb2);clear hb2 c2;have k0:=Ab F2.o.2.1 0 rfl;have k1:=Ab F2.o.2.1 1 rfl;have k2:=Ab F2.o.2.1 2 rfl;simp only[aj]at k0 k1 k2;have s2:=F2.o.1.1.2.2.2.2;go_wp2_with fail;refine(Hn.o _ F2.o.1.1).mono ?_;rintro e w3 ⟨rfl,hs3⟩;have F3:=Aa (F2.o.step hb0 hs3);clear hs3 k0 k1 k2 s2;go_wp2_with fail;refine(Hd.o _).mono ?_;rintro e w4 ⟨rfl,hb4⟩;have F4:=Aa (F3.o.post hb4);clear hb4;go_wp2_with ((with_reducible refine Ac (op:=⟨none,.store 42 _ _,_,_,_,none⟩) rfl 42 _ _ rfl (w.heap.size+1) 0 [.int .u8 110,.string ⟨(Az n).toArray⟩,.int .i64 0,.slice none 0 0] ?_ ?_ ?_ ?_ ?_ ?_);rfl;rfl;(exact F4.o.2.2.1);kernel_rfl;(simp[Value.oneCell']);intro w9 HS9)
 have HQ:=HQ.o;rw[HN.o]at HQ;have Z:=Ev.fin (t:=t) (N:=N+1) (v:=.mk 110 (Az n) 0 []) (sl:=.slice none 0 0) (r:=q) F4.o hb0 HS9.o (D1.nil _ _) (by rw[HQ];cases ok<;>rfl)
  (by rw[HQ];cases ok<;>simp) (Ey aH aE) hdr eP
 exact aC (v:=.agg (Em (.mk 110 (Az n) 0 []) (.slice none 0 0)).toArray) (Ag results57 _ _ (w.heap.size+1) _ _ rfl Z.2 underlying42 rfl aJ) rfl Z.1
theorem Qge(b N:Nat)(p:Value)(t:List UInt8)(k:Kd)(w:World)(h:Dp w b p t false)(hl:t.length<=900)(hs:k.signs=[])(hb:k.base=[116])(q:Option (Vl × List UInt8))(hq:q=match Mj t with|some (x,r)=>some (.mk 116 x 0 [],r)|none=>none):
  Calls prog 57 #[b,Gb k] w (Kh w b p t (N+1) q):=by
 have HQ:=Aa hq;have HS:=Aa h;have hb0:=h.1;have hbn:¬(b=w.heap.size):=aE;have hbn2:¬(b=w.heap.size+1):=aE;have c2:=h.2.2.2.2;clear hq;obtain⟨sg,bs,nm⟩:=k;simp only at hs hb;have Hn:=Aa (fun W (h:Dp W b p t false)=>Qbm b p t false W h aE);subst hs hb;unfold Gb;simp only;clear h;go_enter func57,ntmps57;go_wp2_with fail;refine(El _ _ _).mono ?_;rintro e w2 ⟨rfl,hb2⟩;have F2:=Aa ((Ev.init (k:=⟨[],[116],nm⟩) HS.o).post hb2);clear hb2 c2;have k0:=Ab F2.o.2.1 0 rfl;have k1:=Ab F2.o.2.1 1 rfl;have k2:=Ab F2.o.2.1 2 rfl;simp only[aj]at k0 k1 k2;have s2:=F2.o.1.1.2.2.2.2;go_wp2_with fail;refine(Hn.o _ F2.o.1.1).mono ?_;rintro e w3 ⟨x,r,bad,rfl,hs3,hx,hxl⟩;have F3:=Aa (F2.o.step hb0 hs3);have Hx:=Aa hx;clear hs3 hx k0 k1 k2 s2;go_wp2_with ((with_reducible refine Ac (op:=⟨none,.store 42 _ _,_,_,_,none⟩) rfl 42 _ _ rfl (w.heap.size+1) 0 [.int .u8 116,x,.int .i64 0,.slice none 0 0] ?_ ?_ ?_ ?_ ?_ ?_);rfl;rfl;(exact F3.o.2.2.1);kernel_rfl;(simp[Value.oneCell']);intro w9 HS9)
 have HQ:=HQ.o;rw[show Mj t=if bad then none else some (x,r)from Hx.o]at HQ;have Z:=Ev.fin (t:=t) (N:=N+1) (v:=.mk 116 x 0 []) (sl:=.slice none 0 0) (r:=q) F3.o hb0 HS9.o (D1.nil _ _) (by rw[HQ];cases bad<;>rfl)
  (by rw[HQ];cases bad<;>simp) (Ey aH aE) aE eP
 exact aC (v:=.agg (Em (.mk 116 x 0 []) (.slice none 0 0)).toArray) (Ag results57 _ _ (w.heap.size+1) _ _ rfl Z.2 underlying42 rfl aJ) rfl Z.1
theorem Qe7(b N:Nat)(p:Value)(t:List UInt8)(k:Kd)(w:World)(h:Dp w b p t false)(hl:t.length<=900)(hs:k.signs=[])(hb:k.base=[102])(q:Option (Vl × List UInt8))(hq:q=match Ni t with|some (x,r)=>some (.mk 102 (if x then Ei else Ma) 0 [],r)|none=>none):
  Calls prog 57 #[b,Gb k] w (Kh w b p t (N+1) q):=by
 have HQ:=Aa hq;have HS:=Aa h;have hb0:=h.1;have hbn:¬(b=w.heap.size):=aE;have hbn2:¬(b=w.heap.size+1):=aE;have c2:=h.2.2.2.2;clear hq;obtain⟨sg,bs,nm⟩:=k;simp only at hs hb;have HFL:=@Aa (Ni t=(match Aj Ei t false with|some r=>some (true,r)|none=>match Aj Ma t false with|some r=>some (false,r)|none=>none)) rfl;have Hy:=Aa (fun W (h:Dp W b p t false)=>Dm b p t Ei false W h aE);have Hw:=Aa (fun W (h:Dp W b p t false)=>Bf b p t Ma false W h aE);have Hl1:=Aa (fun r (h:Aj Ei t false=some r)=>(Du (p:=Ei)).1 h);have Hl2:=Aa (fun r (h:Aj Ma t false=some r)=>(Du (p:=Ma)).1 h);subst hs hb;unfold Gb;simp only;clear h;rcases hy:Aj Ei t false with _|r
 ·rw[hy]at Hy HFL;unfold Ei at Hy;unfold Ma at Hw
  have HL:=Aa (show ((Aj Ma t false).getD t).length<=t.length from by
   cases h:Aj Ma t false with
   |none=>exact As _
   |some r=>rw[Hl2.o r h];simp)
  clear hy;go_enter func57,ntmps57;go_wp2_with fail;refine(El _ _ _).mono ?_;rintro e w2 ⟨rfl,hb2⟩;have F2:=Aa ((Ev.init (k:=⟨[],[102],nm⟩) HS.o).post hb2);clear hb2 c2;have k0:=Ab F2.o.2.1 0 rfl;have k1:=Ab F2.o.2.1 1 rfl;have k2:=Ab F2.o.2.1 2 rfl;simp only[aj]at k0 k1 k2;have s2:=F2.o.1.1.2.2.2.2;go_wp2_with fail;refine(Hy.o _ F2.o.1.1).mono ?_;rintro e w3 ⟨rfl,hs3⟩;simp only[Option.getD_none]at hs3;have F3:=Aa (F2.o.step hb0 hs3);clear hs3 k0 k1 k2 s2;go_wp2_with fail;refine(Hw.o _ F3.o.1.1).mono ?_;rintro e w4 ⟨rfl,hs4⟩;have F4:=Aa (F3.o.step hb0 hs4);clear hs4;go_wp2_with ((with_reducible refine Ac (op:=⟨none,.store 42 _ _,_,_,_,none⟩) rfl 42 _ _ rfl (w.heap.size+1) 0 [.int .u8 102,.string ⟨#[110,111]⟩,.int .i64 0,.slice none 0 0] ?_ ?_ ?_ ?_ ?_ ?_);rfl;rfl;(exact F4.o.2.2.1);kernel_rfl;(simp[Value.oneCell']);intro w9 HS9)
  have HQ:=HQ.o;rw[HFL.o]at HQ;have hl2:=HL.o;have Z:=Ev.fin (t:=t) (N:=N+1) (v:=.mk 102 Ma 0 []) (sl:=.slice none 0 0) (r:=q) F4.o hb0 HS9.o (D1.nil _ _) (by rw[HQ];unfold Ma;cases Aj [110,111] t false<;>rfl)
   (by rw[HQ];unfold Ma;cases Aj [110,111] t false<;>simp) (Ey aH aH) hl2 (by unfold Ma at hl2 ⊢;simp[Au,Cs,Ez];omega)
  exact aC (v:=.agg (Em (.mk 102 Ma 0 []) (.slice none 0 0)).toArray) (Ag results57 _ _ (w.heap.size+1) _ _ rfl Z.2 underlying42 rfl aJ) rfl Z.1
 rw[hy]at Hy HFL;unfold Ei at Hy;have hlr:=Hl1.o r hy;have hlr2:t.length=3+r.length:=by rw[hlr];simp[Ei];omega
 clear hy hlr;go_enter func57,ntmps57;go_wp2_with fail;refine(El _ _ _).mono ?_;rintro e w2 ⟨rfl,hb2⟩;have F2:=Aa ((Ev.init (k:=⟨[],[102],nm⟩) HS.o).post hb2);clear hb2 c2;have k0:=Ab F2.o.2.1 0 rfl;have k1:=Ab F2.o.2.1 1 rfl;have k2:=Ab F2.o.2.1 2 rfl;simp only[aj]at k0 k1 k2;have s2:=F2.o.1.1.2.2.2.2;go_wp2_with fail;refine(Hy.o _ F2.o.1.1).mono ?_;rintro e w3 ⟨rfl,hs3⟩;simp only[Option.getD_some]at hs3;have F3:=Aa (F2.o.step hb0 hs3);clear hs3 k0 k1 k2 s2;go_wp2_with ((with_reducible refine Ac (op:=⟨none,.store 42 _ _,_,_,_,none⟩) rfl 42 _ _ rfl (w.heap.size+1) 0 [.int .u8 102,.string ⟨#[121,101,115]⟩,.int .i64 0,.slice none 0 0] ?_ ?_ ?_ ?_ ?_ ?_);rfl;rfl;(exact F3.o.2.2.1);kernel_rfl;(simp[Value.oneCell']);intro w9 HS9)
 have HQ:=HQ.o;rw[HFL.o]at HQ;have Z:=Ev.fin (t:=t) (N:=N+1) (v:=.mk 102 Ei 0 []) (sl:=.slice none 0 0) (r:=q) F3.o hb0 HS9.o (D1.nil _ _) (by rw[HQ];rfl)
  (by rw[HQ];simp) (Ey aH aH) aE (by unfold Ei;simp[Au,Cs,Ez];omega)
 exact aC (v:=.agg (Em (.mk 102 Ei 0 []) (.slice none 0 0)).toArray) (Ag results57 _ _ (w.heap.size+1) _ _ rfl Z.2 underlying42 rfl aJ) rfl Z.1
def IvC(w0:World)(b:Nat)(p:Value)(S:List Ty)(N:Nat)(k:Kd):Prop:=
 ∀(t:List UInt8) (bad:Bool) (w:World),Below w0 w0 w->Dp w b p t bad->t.length<=900->(bad=false->t.length<N) ->
  Calls prog 57 #[b,Gb k] w (Kh w b p t N (if bad then none else Ak S 1000 N k t))
theorem D1.one{P Q:Nat->Prop}{w:World}{v:Vl}{sl:Value}{T:TypeId}(h:D1 P w sl v.kids)(hQ:∀b,P b->b<w.heap.size->Q b)(hn:Q w.heap.size):
  D1 Q (w.alloc (.cells #[.int .u8 (v.what.toNat:Int),v.text,(v.tag:Int),sl] T)) (.slice (w,0) 1 1) [v]:=by
 have hb:Below w w (w.alloc (.cells #[.int .u8 (v.what.toNat:Int),v.text,(v.tag:Int),sl] T)):=(Ay _ _).alloc (As _) _;refine .mk (w,0) 1 [(v,sl)] rfl rfl aI ⟨rfl,(show 4<=maxLen by decide),fun _=>⟨w.heap.size,0,rfl,by simp,fun j u hj=>?_⟩⟩ (fun g o _ e=>by injection e with e;injection e with e;subst e;exact hn) (fun x hx=>?_)
 ·rw[World.cell?_alloc_new];simpa [Dx]using hj
 rw[an]at hx;subst hx;exact(h.mono hQ).after hb
theorem Cc(c:UInt8)(t:List UInt8)(bad:Bool):((Aj [c] t bad).getD t).length<=t.length:=f7
theorem Eo{c:UInt8}{t r:List UInt8}{bad:Bool}(h:Aj [c] t bad=some r):r.length+1=t.length:=by
 rw[Be]at h;cases bad with
 |true=>cases h
 |false=>rw[if_neg aH,Ax]at h;subst h;rfl
theorem Qb1(w0:World)(b N:Nat)(p:Value)(S:List Ty)(t:List UInt8)(k:Kd)(w:World)(hw:Below w0 w0 w)(hb:w0.heap.size<=b)(h:Dp w b p t false)(hl:t.length<=900)(hN:t.length<=N)(hN2:N<=2000)(sg:List UInt8)(hs:k.signs=63::sg)(hsl:sg.length<=100)
  (H:IvC w0 b p S N k.part) (q:Option (Vl × List UInt8)) (hq:q=Vu (Ak S 1000 N k.part) t):
  Calls prog 57 #[b,Gb k] w (Kh w b p t (N+1) q):=by
 have HQ:=Aa hq;have HH:=Aa H;have HP:=Aa (fun W=>Pf k W 63 sg hs aE);have HS:=Aa h;have HW:=Aa hw;have hb0:=h.1;have hbn:¬(b=w.heap.size):=aE;have hbn2:¬(b=w.heap.size+1):=aE;have c2:=h.2.2.2.2;have hm:=Cc 43 t false;have Hlt:=Aa (fun r (h:Aj [43] t false=some r)=>Eo h);have Hlt2:=Aa (fun r (h:Aj [45] t false=some r)=>Eo h);have Htk:=Aa (fun W (h:Dp W b p t false)=>Dm b p t [45] false W h aE);have Hwt:=Aa (fun W (h:Dp W b p t false)=>Bf b p t [43] false W h aE)
 have HQ2:=Aa (show Vu (Ak S 1000 N k.part) t=(match Aj [45] t false with|some q=>some (.mk 63 [] 0 [],q)|none=>match Aj [43] t false with|none=>none|some r=>match Ak S 1000 N k.part r with|some (v,q)=>some (.mk 63 [] 0 [v],q)|none=>none)from by
  rw[Be,Be];rfl)
 generalize Vu (Ak S 1000 N k.part) t=q0 at *;have Hkp:=Aa (rfl:Gb k=Gb k);obtain⟨sg',bs,nm⟩:=k;simp only at hs;subst hs;generalize hkp:(⟨63::sg,bs,nm⟩:Kd).part=kp at *;unfold Gb at HP ⊢;simp only at HP ⊢;clear h hq hw H Hkp hkp;rcases hy:Aj [45] t false with _|r
 ·rw[hy]at Htk HQ2;obtain⟨t1,ht1⟩:∃t1,t1=(Aj [43] t false).getD t:=⟨_,rfl⟩
  obtain⟨b1,hb1⟩:∃b1,b1=(Aj [43] t false).isNone:=⟨_,rfl⟩
  have HQ3:=Aa (show q=if b1 then none else match Ak S 1000 N kp t1 with|some (v,q)=>some (.mk 63 [] 0 [v],q)|none=>none from by
   rw[HQ.o,HQ2.o,ht1,hb1];cases Aj [43] t false<;>rfl)
  have HL1:=Aa (show b1=false->t1.length<N from by
   intro h;rw[hb1]at h;cases hr:Aj [43] t false with
   |none=>rw[hr]at h;cases h
   |some r=>have:=Hlt.o r hr;rw[ht1,hr];simp;omega)
  rw[<-ht1]at hm;rw[<-ht1,<-hb1]at Hwt;clear hy ht1 hb1 HQ2 HQ;go_enter func57,ntmps57;go_wp2_with fail;refine(Fr 63 sg aE _ _ _).mono ?_;rintro e w2 ⟨rfl,hb2⟩;have F2:=Aa ((Ev.init (k:=⟨63::sg,bs,nm⟩) HS.o).post hb2);clear hb2 c2;go_wp2_with fail;refine(Htk.o _ F2.o.1.1).mono ?_;rintro e w3 ⟨rfl,hs3⟩;simp only[Option.getD_none]at hs3;have F3:=Aa (F2.o.step hb0 hs3);clear hs3;go_wp2_with fail;refine(Hwt.o _ F3.o.1.1).mono ?_;rintro e w4 ⟨rfl,hs4⟩;have F4:=Aa (F3.o.step hb0 hs4);clear hs4;have k0:=Ab F4.o.2.1 0 rfl;have k1:=Ab F4.o.2.1 1 rfl;have k2:=Ab F4.o.2.1 2 rfl;simp only[aj]at k0 k1 k2;go_wp2_with fail;refine(HP.o _).mono ?_;rintro e w5 ⟨rfl,hb5⟩;have F5:=Aa (F4.o.post hb5);clear hb5 k0 k1 k2;go_wp2_with fail;refine(HH.o t1 b1 _ (F5.o.1.env HW.o hb) F5.o.1.1 aE HL1.o).mono ?_;rintro e w6 ⟨v,sl,t',rfl,hk,hs6,hx,hB,hl6,hn6⟩;obtain⟨A7,c7,rfl⟩:=hk.form;have F6:=Aa (F5.o.step hb0 hs6);have hz5:=F5.o.2.2.2;have Hk:=Aa hk;have Hx:=Aa hx;have HB:=Aa hB;clear hs6 hk hx hB;unfold Mg;have F7:=Aa (fun o=>F6.o.post ((Ay _ _).alloc (As _) o));go_wp2_with ((with_reducible refine Ac (op:=⟨none,.store 42 _ _,_,_,_,none⟩) rfl 42 _ _ rfl (w.heap.size+1) 0 [.int .u8 63,a8,.int .i64 0,.slice (w6,0) 1 1] ?_ ?_ ?_ ?_ ?_ ?_);rfl;rfl;(exact(Aa (F7.o _)).o.2.2.1);kernel_rfl;(simp[Value.oneCell']);intro w9 HS9)
  have hz6:=F6.o.2.2.2;have Z:=Ev.fin (t:=t) (N:=N+1) (v:=.mk 63 [] 0 [v]) (sl:=.slice (w6,0) 1 1) (r:=q) (F7.o _) hb0 HS9.o (Hk.o.one (fun c hc _=>by omega) aE)
   (by rw[HQ3.o];cases b1 with
    |true=>rfl
    |false=>simp only[ak,if_false];cases Ak S 1000 N kp t1 with
     |none=>rfl
     |some y=>rfl)
   (by rw[HQ3.o];cases b1 with
    |true=>simp
    |false=>
     simp only[ak,if_false];have hx2:=Hx.o;simp only[ak,if_false]at hx2;cases hr:Ak S 1000 N kp t1 with
     |none=>simp
     |some y=>obtain⟨e1,e2⟩:=hx2 y hr;rintro x hxx;injection hxx with hxx;subst hxx;exact⟨by rw[e1],e2⟩)
   (.mk aH dS aI (fun x hx=>by rw[an]at hx;subst hx;exact HB.o)) aE (by simp[Au,Cs,Ez,An];omega)
  exact aC (v:=.agg (Em (.mk 63 [] 0 [v]) (.slice (w6,0) 1 1)).toArray) (Ag results57 _ _ (w.heap.size+1) _ _ rfl Z.2 underlying42 rfl aJ) rfl Z.1
 rw[hy]at Htk HQ2;have hlt:=Hlt2.o r hy;clear hy;go_enter func57,ntmps57;go_wp2_with fail;refine(Fr 63 sg aE _ _ _).mono ?_;rintro e w2 ⟨rfl,hb2⟩;have F2:=Aa ((Ev.init (k:=⟨63::sg,bs,nm⟩) HS.o).post hb2);clear hb2 c2;go_wp2_with fail;refine(Htk.o _ F2.o.1.1).mono ?_;rintro e w3 ⟨rfl,hs3⟩;simp only[Option.getD_some]at hs3;have F3:=Aa (F2.o.step hb0 hs3);clear hs3;go_wp2_with ((with_reducible refine Ac (op:=⟨none,.store 42 _ _,_,_,_,none⟩) rfl 42 _ _ rfl (w.heap.size+1) 0 [.int .u8 63,a8,.int .i64 0,.slice none 0 0] ?_ ?_ ?_ ?_ ?_ ?_);rfl;rfl;(exact F3.o.2.2.1);kernel_rfl;(simp[Value.oneCell']);intro w9 HS9)
 have HQ:=HQ.o;rw[HQ2.o]at HQ;have Z:=Ev.fin (t:=t) (N:=N+1) (v:=.mk 63 [] 0 []) (sl:=.slice none 0 0) (r:=q) F3.o hb0 HS9.o (D1.nil _ _) (by rw[HQ];rfl)
  (by rw[HQ];simp) (Ey aH aH) aE eP
 exact aC (v:=.agg (Em (.mk 63 [] 0 []) (.slice none 0 0)).toArray) (Ag results57 _ _ (w.heap.size+1) _ _ rfl Z.2 underlying42 rfl aJ) rfl Z.1
end
theorem Pq:(prog.info? 42).map (fun i=>(i.zero,i.size,i.bytes))=some (some (.agg #[.int .u8 0,a8,.int .i64 0,.slice none 0 0]),4,56):=aJ
structure Qk(base B:Nat)(W:World)(h0 h1 h2 u rv:Value)(xs:List (Vl × Value)):Prop where
 lt:B<W.heap.size
 bs:base<=W.heap.size
 hB:B<base
 bk:Mu W B
 c0:W.cell? (B,0)=some h0
 c1:W.cell? (B,1)=some h1
 c2:W.cell? (B,2)=some h2
 c3:W.cell? (B,3)=some u
 row:W.ownsRow base 42 4 rv xs.length (xs.flatMap Dx)
 kids:∀x∈xs,D1 (fun c=>base<=c/\rv.ownBlock≠some c) W x.2 x.1.kids
theorem Qk.after{base B:Nat}{W W':World}{h0 h1 h2 u rv:Value}{xs:List (Vl × Value)}(h:Qk base B W h0 h1 h2 u rv xs)(hb:Below W W W'):Qk base B W' h0 h1 h2 u rv xs:=by
 exact iQ
theorem Qk.step{base B b:Nat}{W W':World}{h0 h1 h2 u rv:Value}{xs:List (Vl × Value)}(h:Qk base B W h0 h1 h2 u rv xs)(hg:W.grownBy W' (some b))(hb:b<base)(hne:b≠B):Qk base B W' h0 h1 h2 u rv xs:=by
 have hn:some B≠some b:=fun e=>by injection e with e;omega
 exact⟨ab h.lt hg.size,ac h.bs hg.size,h.hB,h.bk.grown h.lt hg hn,hg.cell h.c0 hn,hg.cell h.c1 hn,hg.cell h.c2 hn,hg.cell h.c3 hn,
  h.row.kept hg (by
   cases hr:rv.ownBlock with
   |none=>cases rv with
    |slice A a b=>cases A with
     |none=>exact .inl rfl
     |some x=>simp[Value.ownBlock]at hr
    |_=>exact .inl rfl
   |some k=>have:=(h.row.lt k hr).1;exact .inr cb),
  fun x hx=>(h.kids x hx).grown hg fun c hc e=>by injection e with e;omega⟩
theorem Qk.store{base B:Nat}{W:World}{h0 h1 h2 u rv:Value}{xs:List (Vl × Value)}(h:Qk base B W h0 h1 h2 u rv xs):Qk base B (W.setCell ⟨B,3,none⟩ rv) h0 h1 h2 rv rv xs:=by
 have hg:=Ap W B 3 rv;have hf:=h.bk.live 3;refine⟨by simpa using h.lt,by simpa using h.bs,h.hB,h.bk.set _,by simp[go_sem,h.c0],by simp[go_sem,h.c1],by simp[go_sem,h.c2],by simp[go_sem,h.c3,hf],h.row.kept hg ?_,fun x hx=>(h.kids x hx).grown hg fun c hc e=>by injection e with e;have:=h.hB;omega⟩;cases hr:rv.ownBlock with
 |none=>cases rv with
  |slice A a b=>cases A with
   |none=>exact .inl rfl
   |some x=>simp[Value.ownBlock]at hr
  |_=>exact .inl rfl
 |some k=>have:=(h.row.lt k hr).1;have:=h.hB;exact .inr cb
theorem Qk.app{base B:Nat}{W W':World}{h0 h1 h2 u rv rv':Value}{xs:List (Vl × Value)}{x:Vl × Value}(h:Qk base B W h0 h1 h2 u rv xs)(hx:D1 (fun c=>base<=c/\rv.ownBlock≠some c) W x.2 x.1.kids)
  (hown:W'.ownsRow base 42 4 rv' (xs.length+1) (xs.flatMap Dx++Dx x)) (hg:W.grownBy W' rv.ownBlock) (hwh:rv'.ownBlock=rv.ownBlock\/∃k,rv'.ownBlock=some k/\W.heap.size<=k):Qk base B W' h0 h1 h2 u rv' (xs++[x]):=by
 have hn:some B≠rv.ownBlock:=fun e=>eI;refine⟨ab h.lt hg.size,ac h.bs hg.size,h.hB,h.bk.grown h.lt hg hn,hg.cell h.c0 hn,hg.cell h.c1 hn,hg.cell h.c2 hn,hg.cell h.c3 hn,by simpa using hown,fun y hy=>?_⟩;have hy':D1 (fun c=>base<=c/\rv.ownBlock≠some c) W y.2 y.1.kids:=by
  rcases ae.1 hy with hy|hy
  ·exact h.kids y hy
  rw[an]at hy;subst hy;exact hx
 refine hy'.kept (fun b o v hb _ hv=>hg.cell hv fun e=>hb.2 e.symm) hg.size fun c hc hl=>⟨hc.1,?_⟩
 rcases hwh with e|⟨k,e,hk⟩
 ·rw[e];exact hc.2
 exact iR
theorem Qk.done{base B:Nat}{W:World}{h0 h1 h2 u rv:Value}{xs:List (Vl × Value)}(h:Qk base B W h0 h1 h2 u rv xs)(hl:xs.length<=1000):D1 (fun c=>base<=c) W rv (Ar xs):=by
 rcases h.row.2 with⟨rfl,h0⟩|⟨g,cap,cur,rfl,hbg,hh,hnc,hcm,hcs,htk⟩
 ·obtain rfl:xs=[]:=List.eq_nil_of_length_eq_zero h0;exact D1.nil _ _
 refine .mk (g,0) cap xs rfl rfl hl ⟨Gv Pl xs,by unfold maxLen;omega,fun hn=>⟨g,0,rfl,(h.row.lt g rfl).2,fun j u hu=>?_⟩⟩ (fun g' o _ e=>by injection e with e;injection e with e;subst e;exact hbg) fun x hx=>(h.kids x hx).mono fun c hc _=>hc.1;have:=h.row.cells (g:=g) rfl j u hu;have e1:(⟨g,0,none⟩:Addr).add j=⟨g,0+j,none⟩:=bj;rwa [e1]at this
theorem Ff{w:World}{base k n m c:Nat}{e:TypeId}{A:Option Addr}{xs:List Value}(h:w.ownsRow base e k (.slice A m c) n xs):m=n:=by
 rcases h.2 with⟨e,h0⟩|⟨g,cap,cur,e,_⟩
 ·injection e with _ e1 e2;omega
 injection e with _ e1 e2
theorem Ev.app{w W W':World}{b:Nat}{p:Value}{k:Kd}{t:List UInt8}{bad:Bool}{row:Option Nat}(h:Ev w b p k t bad W)(hb:b<w.heap.size)(hg:W.grownBy W' row)(hr:∀k,row=some k->w.heap.size+2<=k):Ev w b p k t bad W':=by
 have hn:∀c,c<w.heap.size+2->some c≠row:=fun c hc e=>by have:=hr c e.symm;omega
 obtain⟨⟨⟨h0,h1,h2,h3,h4⟩,hg0⟩,k1,k2,k3⟩:=h
 exact⟨⟨⟨ab h0 hg.size,h1.grown h0 hg (hn b aE),hg.cell h2 (hn b aE),hg.cell h3 (hn b aE),hg.cell h4 (hn b aE)⟩,⟨hg.os.trans hg0.os,hg.tape.trans hg0.tape,hg.output.trans hg0.output,ac hg0.size hg.size,fun k hk hne=>(hg.block k (ab hk hg0.size) (hn k aE)).trans (hg0.block k hk hne)⟩⟩,
  Bj k1 hg (hn _ aE),Jo k2 hg k3 (hn _ aE),ab k3 hg.size⟩
theorem Ev.put{w W:World}{b B o:Nat}{p:Value}{k:Kd}{t:List UInt8}{bad:Bool}(h:Ev w b p k t bad W)(hb:b<w.heap.size)(hB:w.heap.size+2<=B)(v:Value):Ev w b p k t bad (W.setCell ⟨B,o,none⟩ v):=
 h.app hb (Ap W B o v) fun k e=>by injection e with e;omega
theorem Yv(x:Vl × Value)(h:x.2.oneCell'=true):∀u∈Dx x,u.oneCell'=true:=by
 intro u hu;simp[Dx]at hu;rcases hu with rfl|rfl|rfl|rfl
 ·rfl
 ·rfl
 ·rfl
 exact h
def G0(vs:List Vl):Option (List Vl × List UInt8)->Option (List Vl × List UInt8)
 |some (us,z)=>some (vs++us,z)
 |none=>none
def LI(K:List UInt8->Option (Vl × List UInt8))(t1:List UInt8)(b1:Bool)(vs:List Vl)(tt:List UInt8):Prop:=
 (b1=true->vs=[])/\(b1=false->A0 K 1000 t1=G0 vs (A0 K (1000 - vs.length) tt))/\Cq (vs.map Au)+tt.length<=t1.length/\∀x∈vs,Bd x
def LE(K:List UInt8->Option (Vl × List UInt8))(t1:List UInt8)(b1:Bool)(vs:List Vl)(tt:List UInt8)(bb:Bool)(N:Nat):Prop:=
 (if b1 then none else A0 K 1000 t1)=(if bb then none else match Ae 93 tt with|some z=>some (vs,z)|none=>none)/\Cq (vs.map Au)+tt.length<=t1.length+8*N+1/\∀x∈vs,Bd x
theorem LI.init(K:List UInt8->Option (Vl × List UInt8))(t1:List UInt8)(b1:Bool):LI K t1 b1 [] t1:=
 ⟨fun _=>rfl,fun _=>by cases h:A0 K 1000 t1<;>simp[G0,h],by simp[Cq],by simp⟩
theorem Kr(a b:List (List UInt8)):Cq (a++b)=Cq a+Cq b:=cJ
theorem LI.len{K:List UInt8->Option (Vl × List UInt8)}{t1 tt:List UInt8}{b1:Bool}{vs:List Vl}(h:LI K t1 b1 vs tt):vs.length+tt.length<=t1.length:=by
 have h1:=Qco (vs.map Au);have h2:=h.2.2.1;simp at h1;omega
theorem LI.step{K:List UInt8->Option (Vl × List UInt8)}{t1 tt t' t'':List UInt8}{vs:List Vl}{v:Vl}(h:LI K t1 false vs tt)(hK:K tt=some (v,t'))(hg:tt.length=(Au v).length+t'.length)(hc:Ae 44 t'=some t'')(hB:Bd v)(hl:t1.length<=900):LI K t1 false (vs++[v]) t'':=by
 have hlen:=h.len;obtain⟨_,h2,h3,h4⟩:=h;have e:t'=44::t'':=Ax.1 hc;refine⟨fun h=>Bool.noConfusion h,fun _=>?_,?_,?_⟩
 ·rw[h2 rfl];obtain⟨m,hm⟩:∃m,1000 - vs.length=m+1:=⟨999 - vs.length,by omega⟩
  rw[hm,show 1000 - (vs++[v]).length=m by simp;omega];conv=>lhs;unfold A0
  rw[hK];simp only[hc];cases A0 K m t''<;>simp[G0]
 ·rw[aw,Kr];simp[De,Cq]at h3 ⊢;rw[e]at hg;simp at hg;omega
 intro x hx;rcases ae.1 hx with hx|hx
 ·exact h4 x hx
 rw[an]at hx;subst hx;exact hB
theorem LI.brk{K:List UInt8->Option (Vl × List UInt8)}{t1 tt t':List UInt8}{vs:List Vl}{v:Vl}{N:Nat}(h:LI K t1 false vs tt)(hx:∀x,K tt=some x->v=x.1/\t'=x.2)(hc:Aj [44] t' (K tt).isNone=none)(hB:Bd v)(hl:t1.length<=900)
  (hn:(Au v).length+t'.length<=tt.length+8*N):LE K t1 false (vs++[v]) t' (K tt).isNone N:=by
 have hlen:=h.len;obtain⟨_,h2,h3,h4⟩:=h;refine⟨?_,?_,?_⟩
 ·rw[if_neg aH,h2 rfl];obtain⟨m,hm⟩:∃m,1000 - vs.length=m+1:=⟨999 - vs.length,by omega⟩
  rw[hm];unfold A0;cases hk:K tt with
  |none=>rfl
  |some y=>
   obtain⟨e1,e2⟩:=hx y hk;obtain⟨y1,y2⟩:=y;simp only at e1 e2;subst e1 e2;rw[hk,Be]at hc;simp only[Option.isNone_some,ak,if_false]at hc ⊢;rw[hc];simp only;cases Ae 93 t'<;>simp[G0]
 ·rw[aw,Kr];simp[De,Cq]at h3 ⊢;omega
 intro x hx;rcases ae.1 hx with hx|hx
 ·exact h4 x hx
 rw[an]at hx;subst hx;exact hB
theorem LI.bad{K:List UInt8->Option (Vl × List UInt8)}{t1 tt:List UInt8}{vs:List Vl}{N:Nat}(h:LI K t1 true vs tt):LE K t1 true vs tt true N:=⟨by simp,by have:=h.2.2.1;omega,h.2.2.2⟩
theorem LE.fin{K:List UInt8->Option (Vl × List UInt8)}{t t1 tt:List UInt8}{b1 bb:Bool}{vs:List Vl}{N:Nat}(h:LE K t1 b1 vs tt bb N)(h1:t1=(Aj [91] t false).getD t)(hb1:b1=(Aj [91] t false).isNone)(h2:Aj [93] t1 b1=none):
  Kl K 1000 t=if (Aj [93] tt bb).isNone || decide (20<vs.length)then none else some (.mk 91 [] 0 vs,(Aj [93] tt bb).getD tt):=by
 obtain⟨h3,_,_⟩:=h;rw[Be]at h1 hb1 h2 ⊢;simp only[ak,if_false]at h1 hb1;unfold Kl;cases hy:Ae 91 t with
 |none=>
  rw[hy]at hb1;simp only[Option.isNone_none]at hb1;subst hb1;simp only[if_true]at h3;simp only;cases bb with
  |true=>simp
  |false=>
   simp only[ak,if_false]at h3 ⊢;cases hz:Ae 93 tt with
   |none=>simp
   |some z=>rw[hz]at h3;cases h3
 |some r=>
  rw[hy]at h1 hb1;simp only[Option.isNone_some,Option.getD_some]at h1 hb1;subst h1 hb1;simp only[ak,if_false]at h2 h3;simp only;rw[h2];simp only;rw[h3];cases bb with
  |true=>simp
  |false=>
   simp only[ak,if_false];cases Ae 93 tt with
   |none=>simp
   |some z=>
    simp only[Option.isNone_some,Bool.false_or,decide_eq_true_eq,Option.getD_some];by_cases h:vs.length<=20
    ·rw[if_pos h,if_neg aE]
    rw[if_neg h,if_pos aE]
end Go.Proofs.YtkigmebejmmikaaGreatDoor
