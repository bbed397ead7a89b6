/- Texts joined. Conditions: as each theorem names them. -/
import Derived.Maps.AppendAt
import Derived.Test.YtmmhmlmfhpfgbaaGreatDoorF27
set_option maxRecDepth 100000
set_option maxHeartbeats 32000000
set_option linter.unusedVariables false
set_option linter.unusedSimpArgs false
namespace Go.Proofs.YtmmhmlmfhpfgbaaGreatDoor
open Go.RowKit Go.Proofs.Tryz
section
attribute [local go_sem] Qoe Qnf Qmu Qk2 ByteArray.mk_append_mk
theorem Qfk(s:List UInt8)(w:World)(hs:s.length<=400):
  Calls prog 61 #[s] w (Jm (B9 s) w):=by
 have HF:=@Aa (B9 s=(match Gn (s.length+1) s []with|none=>none|some S=>if H8 S/\(∀t∈S,Ca S 9 t=true)then some S else none)) (if_neg aH);have t1:¬(400:Int)<(s.length:Int):=aH;have hmm:=@run_makeMap prog;go_enter func61,ntmps61;go_wp2_with fail;clear hmm;have HM0:=@Aa (Dp prog 9 (.pointer none) ((w.alloc (.map #[] 0)).alloc (.cells #[.slice none 0 0,.map (some w.heap.size)] 135)) w 0 (Yp [])) (((Dp.made w prog 9 (.pointer none)).alloc _).of_eq (fun l hl=>by cases l<;>rfl))
 have HR0:=Aa (show ((w.alloc (.map #[] 0)).alloc (.cells #[.slice none 0 0,.map (some w.heap.size)] 135)).rangeAt (w.heap.size+1) 0 [.slice none 0 0,.map (some w.heap.size)]from by
  have:=Bo (w.alloc (.map #[] 0)) [.slice none 0 0,.map (some w.heap.size)] 135;simpa using this)
 have HK0:=Aa (show ((w.alloc (.map #[] 0)).alloc (.cells #[.slice none 0 0,.map (some w.heap.size)] 135)).there (w.heap.size+1) 0 2 from by
  have:=Bz (w.alloc (.map #[] 0)) [.slice none 0 0,.map (some w.heap.size)] 135;simpa using this)
 have HB0:=@Aa (Below w w ((w.alloc (.map #[] 0)).alloc (.cells #[.slice none 0 0,.map (some w.heap.size)] 135))) (((Ao _ _).alloc (An _) _).alloc aK _);have HO0:=Aa (World.ownsRow_nil ((w.alloc (.map #[] 0)).alloc (.cells #[.slice none 0 0,.map (some w.heap.size)] 135)) (w.heap.size+2) 90 1)
 go_loopw [0] (fun l wr=>∃(u:List UInt8) (fuel:Nat) (xs:List PT) (tv:Value),l=u/\u.length<=s.length/\u.length<fuel/\Hid (Gn (s.length+1) s []=Gn fuel u (Ag xs))/\xs.length<=8 /\
   Hid (wr.rangeAt (w.heap.size+1) 0 [tv,.map (some w.heap.size)])/\Hid (wr.there (w.heap.size+1) 0 2)/\Hid (wr.ownsRow (w.heap.size+2) 90 1 tv xs.length (xs.map (·.ptr))) /\
   Hid (Qo wr w.heap.size xs)/\Hid (Zk wr (w.heap.size+2) tv xs)/\Hid (Below w w wr)/\w.heap.size+2<=wr.heap.size) (fun l _=>S1 l)
 case atStart=>exact⟨s,s.length+1,[],.slice none 0 0,rfl,An _,by omega,rfl,by simp,HR0.o,HK0.o,HO0.o,HM0.o,⟨by simp,List.Pairwise.nil⟩,HB0.o,by simp⟩
 case round=>
  clear HM0 HR0 HK0 HB0 HO0;obtain⟨wo,rfl⟩:∃wo:World,wo=wr:=⟨_,rfl⟩
  obtain⟨u,fuel,xs,tv,rfl,hul,hfu,hlin,hx8,hT,hK,hown,hnm,hty,hbr,hzr⟩:=hrel;obtain⟨A,cA,rfl,hrow⟩:=B0.own hown.o;have Hrow:=Aa hrow;have s0:wo.cell? (w,1,0)=some (.slice A xs.length cA):=by simpa using Ab hT.o 0 rfl
  have s1:wo.cell? (w,1,1)=some (.map (some w.heap.size)):=by simpa using Ab hT.o 1 rfl
  obtain⟨fuel,rfl⟩:∃f,fuel=f+1:=⟨fuel - 1,by omega⟩
  clear hrow;by_cases hu:u=[]
  ·subst hu;have Hlin:=Aa (show Gn (s.length+1) s []=some (Ag xs)by rw[hlin.o];simp[Gn]);have hgood:=Vt.1 Hlin.o;have Htok:=@Aa (∀x∈xs,Fi x.ty) (fun x hx=>hgood.1.1 x.ty (ap (f:=(·.ty)) hx));have HF2:=@Aa (B9 s=if H8 (Ag xs)/\(∀t∈Ag xs,Ca (Ag xs) 9 t=true)then some (Ag xs)else none) (by rw[HF.o,Hlin.o]);have HSC:=@Aa (Sd wo (w,1,0) xs) ⟨w.heap.size+1,A,cA,w.heap.size,rfl,by omega,s0,s1,by have:=Hrow.o;simpa using this,hnm.o,fun x hx=>(hty.o.1 x hx).1,hty.o.2⟩;have Hrow2:=@Aa (B0 wo A xs.length (xs.map (·.ptr))) Hrow.o
   have HSL:=Aa (show Qa w.heap.size wo (w,1,0) xs from⟨w.heap.size+1,A,cA,w.heap.size,rfl,by omega,s0,s1,Hrow2.o,hnm.o,fun x hx=>(hty.o.1 x hx).1,hty.o.2,by omega,An _,fun g o _ eA=>by
    have:=(hown.o.lt g (by rw[eA];rfl)).1;omega,fun x hx=>⟨by have:=(hty.o.1 x hx).2.1.1;omega,fun k hn hk=>by have:=(hty.o.1 x hx).2.1.2 k hn hk;omega⟩⟩)
   clear hgood hlin hT hK hown hnm hty Hrow HF Hlin;have S0:=Aa s0;go_wp2_with fail;clear s0 s1;go_loopw [84] (fun i wr=>∃k:Nat,i=.int .i64 k/\k<=xs.length/\Hid (∀x∈xs.take k,x.ty.sort≠69->∀f∈x.ty.fields,B6 (Ag xs) f.kind)/\Hid (Below wo wo wr)) (fun i _=>xs.length - (intOf i).toNat)
   case atStart=>exact⟨0,rfl,ag _,by intro x hx;simp at hx,Ao _ _⟩
   case round=>
    obtain⟨wp,rfl⟩:∃wp:World,wp=wr:=⟨_,rfl⟩
    obtain⟨k,rfl,hk,hin,hbp⟩:=hrel;have k1:(0:Int)<=(k:Int):=aH;have hzp:=hbp.o.size;by_cases hkl:k<xs.length
    ·have k2:(k:Int)<(xs.length:Int):=aH;obtain⟨bA,oA,rfl,hbA,cl⟩:=(Hrow2.o.below hbp.o).at_ hkl;rw[List.getElem_map]at cl;have Hts:=Aa (Cb xs k hkl);have Hmem:=Aa (ae hkl);generalize xs[k]=x at cl Hts Hmem;unfold PT.ptr at cl;have Hxt:=Aa (Htok.o x Hmem.o);obtain⟨hyb,_,y0,y1,y2,y3,A7,c7,hyf,hl8,hrow7⟩:=(HSC.o.tys x Hmem.o).below hbp.o;rw[hyf]at y2;have Hrow7:=Aa hrow7;clear hrow7 hyf y1 y3;go_wp2_with fail;go_loopw [93] (fun i wr=>∃j:Nat,i=.int .i64 j/\j<=x.ty.fields.length/\Hid (x.ty.sort≠69->∀f∈x.ty.fields.take j,B6 (Ag xs) f.kind)/\Hid (Below wp wp wr)) (fun i _=>x.ty.fields.length - (intOf i).toNat)
     case atStart=>exact⟨0,rfl,ag _,by intro _ f hf;simp at hf,Ao _ _⟩
     case round=>
      obtain⟨j,rfl,hj,hin2,hbq⟩:=hrel;have j1:(0:Int)<=(j:Int):=aH;have hzq:=hbq.o.size;have x0:=(hbq.o.cell (p:=⟨x.blk,0,none⟩) hyb).trans y0;have hxw:x.blk<wr.heap.size:=aH;have hxn:¬(x.blk=wr.heap.size):=aH;have Hbw:=@Aa (Below w w wr) ((hbr.o.trans (hbp.o.mono aH)).trans (hbq.o.mono aH));have Hbo2:=@Aa (Below wo wo wr) (hbp.o.trans (hbq.o.mono hzp));by_cases hjl:j<x.ty.fields.length
      ·have j2:(j:Int)<(x.ty.fields.length:Int):=aH;obtain⟨b8,o8,rfl,hb8,hrg⟩:=Q5.range (Hrow7.o.below hbq.o) hjl;have Hts2:=Aa (Cb x.ty.fields j hjl);have Hfm:=Aa (ae hjl);have Hrg:=@Aa (wr.rangeAt b8 (o8+j*6) [.int .i64 (x.ty.fields[j].tag:Int),.string ⟨x.ty.fields[j].name.toArray⟩,.string ⟨x.ty.fields[j].kind.signs.toArray⟩,.string ⟨x.ty.fields[j].kind.base.toArray⟩,.string ⟨x.ty.fields[j].kind.name.toArray⟩,.string ⟨x.ty.fields[j].given.toArray⟩]) hrg;clear hrg;generalize x.ty.fields[j]=f at Hts2 Hfm Hrg;by_cases h69:x.ty.sort=69
       ·have t69:((x.ty.sort.toNat:Int) != 69)=false:=Na (d:=69) h69;have Hin2:=@Aa (x.ty.sort≠69->∀f∈x.ty.fields.take (j+1),B6 (Ag xs) f.kind) (fun h=>absurd h69 h);clear h69;go_wp2_with ((with_reducible refine wpList_load_mid (op:=⟨_,.load 97 _,_,_,_,none⟩) rfl 97 _ rfl b8 (o8+j*6) ?_ _ _ Hrg.o underlying97 ?_ ?_ ?_);rfl;rfl;kernel_rfl)
        go_roundw
        case rel=>exact⟨j+1,by go_num,by omega,Hin2.o,hbq.o.alloc hzq _⟩
        case measure=>simp[intOf];omega
       have t69:((x.ty.sort.toNat:Int) != 69)=true:=Qc (d:=69) h69;have Hkd:=Aa ((Hxt.o.2.2.1.1 f Hfm.o).2.2.2.2 h69).1;have Hhas:=Aa (fun W (h:Below wo wo W)=>Qdz _ xs f.kind W (HSC.o.below h).map (ad (Fv Hkd.o) aJ));unfold D9 at Hhas;by_cases hrf:B6 (Ag xs) f.kind
       ·have Hin2:=Aa (show x.ty.sort≠69->∀f∈x.ty.fields.take (j+1),B6 (Ag xs) f.kind from fun h g hg=>by
         rw[Hts2.o]at hg;rcases af.1 hg with hg|hg
         ·exact hin2.o h g hg
         simp at hg;subst hg;exact hrf)
        rw[aD hrf]at Hhas;clear h69 hrf;go_wp2_with ((with_reducible refine wpList_load_mid (op:=⟨_,.load 97 _,_,_,_,none⟩) rfl 97 _ rfl b8 (o8+j*6) ?_ _ _ Hrg.o underlying97 ?_ ?_ ?_);rfl;rfl;kernel_rfl)
        refine(Hhas.o _ (Hbo2.o.alloc aH _)).mono ?_;rintro e w9 ⟨rfl,hb9⟩;have Hb9:=@Aa (Below wp wp w9) ((hbq.o.alloc hzq _).trans (hb9.mono aM));clear hb9;go_wp2_with fail;go_roundw
        case rel=>exact⟨j+1,by go_num,by omega,Hin2.o,Hb9.o⟩
        case measure=>simp[intOf];omega
       have Hend:=Aa (show B9 s=none by
        rw[HF2.o,if_neg];rintro⟨h,_⟩;exact hrf (h x.ty (ap (f:=(·.ty)) Hmem.o) h69 f Hfm.o))
       rw[aC hrf]at Hhas;clear h69 hrf;go_wp2_with ((with_reducible refine wpList_load_mid (op:=⟨_,.load 97 _,_,_,_,none⟩) rfl 97 _ rfl b8 (o8+j*6) ?_ _ _ Hrg.o underlying97 ?_ ?_ ?_);rfl;rfl;kernel_rfl)
       refine(Hhas.o _ (Hbo2.o.alloc aH _)).mono ?_;rintro e w9 ⟨rfl,hb9⟩;have Hb9:=@Aa (Below w w w9) ((Hbw.o.alloc Hbw.o.size _).trans (hb9.mono aM));clear hb9;go_wp2_with fail;go_ret2;exact Jm.no Hend.o rfl Hb9.o
      ·have j2:¬(j:Int)<(x.ty.fields.length:Int):=aH
       have Hin3:=Aa (show ∀y∈xs.take (k+1),y.ty.sort≠69->∀f∈y.ty.fields,B6 (Ag xs) f.kind from fun y hy=>by
        rw[Hts.o]at hy;rcases af.1 hy with hy|hy
        ·exact hin.o y hy
        simp at hy;subst hy;intro h f hf;exact hin2.o h f dO)
       go_wp2_with fail;go_roundw
       case rel=>exact⟨k+1,by go_num,by omega,Hin3.o,Hbo2.o⟩
       case measure=>simp[intOf];omega
    ·have k2:¬(k:Int)<(xs.length:Int):=aH
     have Hkinds:=Aa (show H8 (Ag xs)from fun t ht h f hf=>by
      obtain⟨x,hx,rfl⟩:=ax.1 ht;exact hin.o x (by rw[au aH];exact hx) h f hf)
     have s9:=(hbp.o.cell (p:=⟨w.heap.size+1,0,none⟩) (show w.heap.size+1<wo.heap.size by omega)).trans S0.o;have HSP:=Aa (HSC.o.below hbp.o);have HrowP:=Aa (Hrow2.o.below hbp.o);have HbP:=@Aa (Below w w wp) (hbr.o.trans (hbp.o.mono aH));go_wp2_with fail;clear s9;go_loopw [116] (fun i wr=>∃m:Nat,i=.int .i64 m/\m<=xs.length/\Hid (∀x∈xs.take m,Ca (Ag xs) 9 x.ty=true)/\Hid (Below wp wp wr)) (fun i _=>xs.length - (intOf i).toNat)
     case atStart=>exact⟨0,rfl,ag _,by intro x hx;simp at hx,Ao _ _⟩
     case round=>
      obtain⟨m,rfl,hm,hin4,hbm⟩:=hrel;have m1:(0:Int)<=(m:Int):=aH;have HbM:=@Aa (Below w w wr) (HbP.o.trans (hbm.o.mono HbP.o.size));by_cases hml:m<xs.length
      ·have m2:(m:Int)<(xs.length:Int):=aH;obtain⟨bA,oA,rfl,hbA,cl⟩:=(HrowP.o.below hbm.o).at_ hml;rw[List.getElem_map]at cl;have Hts:=Aa (Cb xs m hml);have Hmem:=Aa (ae hml);generalize xs[m]=x at cl Hts Hmem;have Hends:=Aa (Qh7 _ xs x wr (HSP.o.below hbm.o).map (HSP.o.below hbm.o).tys Htok.o Hkinds.o Hmem.o);unfold PT.ptr at cl Hends;cases hee:Ca (Ag xs) 9 x.ty with
       |true=>
        rw[hee]at Hends
        have Hin5:=Aa (show ∀y∈xs.take (m+1),Ca (Ag xs) 9 y.ty=true from fun y hy=>by
         rw[Hts.o]at hy;rcases af.1 hy with hy|hy
         ·exact hin4.o y hy
         simp at hy;subst hy;exact hee)
        clear hee;go_wp2_with fail;refine Hends.o.mono ?_;rintro e w9 ⟨rfl,hb9⟩;have Hb9:=Aa (hbm.o.trans (hb9.mono hbm.o.size));clear hb9;go_wp2_with fail;go_roundw
        case rel=>exact⟨m+1,by go_num,by omega,Hin5.o,Hb9.o⟩
        case measure=>simp[intOf];omega
       |false=>
        rw[hee]at Hends
        have Hend:=Aa (show B9 s=none by
         rw[HF2.o,if_neg];rintro⟨_,h⟩;have:=h x.ty (ap (f:=(·.ty)) Hmem.o);rw[hee]at this;cases this)
        clear hee;go_wp2_with fail;refine Hends.o.mono ?_;rintro e w9 ⟨rfl,hb9⟩;have Hb9:=Aa (HbM.o.trans (hb9.mono HbM.o.size));clear hb9;go_wp2_with fail;go_ret2;exact Jm.no Hend.o rfl Hb9.o
      ·have m2:¬(m:Int)<(xs.length:Int):=aH
       have Hfin:=Aa (show B9 s=some (Ag xs)by
        rw[HF2.o,if_pos];refine⟨Hkinds.o,fun t ht=>?_⟩;obtain⟨x,hx,rfl⟩:=ax.1 ht;exact hin4.o x (by rw[au aH];exact hx))
       go_wp2_with fail;go_ret2;exact Jm.yes Hfin.o rfl ((HSL.o.below hbp.o).below hbm.o) HbM.o
  ·have hu1:u.isEmpty=false:=fa;have hu2:(!u.isEmpty)=true:=fa;have hu3:(u == [])=false:=fa;have hu4:(u != [])=true:=fa
   have Hlin:=Aa (show Gn (s.length+1) s []=(if (Dl 10 u).2.2=false\/(Ag xs).length=8 then none else match Fa (Dl 10 u).1 with
    |none=>none
    |some t=>if (Ag xs).any (fun v=>decide (v.name=t.name))=true then none else Gn fuel (Dl 10 u).2.1 (Ag xs++[t]))by rw[hlin.o,Gn,if_neg hu];rfl)
   have Hcut:=Aa (fun W=>Tp u 10 W aH);have hcl:=Mo 10 u;have hsh:(Dl 10 u).2.2=true->(Dl 10 u).2.1.length<u.length:=fun h=>by
    rcases Ga 10 u with⟨_,e⟩|⟨p,t,e1,_,e⟩
    ·rw[e]at h;cases h
    rw[e];show t.length<u.length;rw[e1];simp;omega
   have Hsh:=Aa hsh;generalize Dl 10 u=q at *;obtain⟨ln,rest,told⟩:=q;simp only at hcl Hlin Hsh;have hcl1:=hcl.1;have hcl2:=hcl.2;clear hcl hu hlin hsh;go_wp2_with fail;refine(Hcut.o _).mono ?_;rintro e w1 ⟨rfl,k1,rfl⟩;unfold Qdm;cases told with
   |false=>
    have Hend:=Aa (show B9 s=none by rw[HF.o,Hlin.o];simp);go_wp2_with fail;go_ret2;exact Jm.no Hend.o rfl (below_drewN hbr.o _)
   |true=>
    have hrl:=Hsh.o aK;rcases Nat.eq_or_lt_of_le hx8 with h8|h8
    ·have q1:((xs.length:Int) == 8)=true:=by simp[h8]
     have Hend:=Aa (show B9 s=none by rw[HF.o,Hlin.o];simp[Ag,h8]);clear h8;go_wp2_with fail;go_ret2;exact Jm.no Hend.o rfl (below_drewN hbr.o _)
    have q1:((xs.length:Int) == 8)=false:=cq
    have Hlin2:=Aa (show Gn (s.length+1) s []=(match Fa ln with
     |none=>none
     |some t=>if (Ag xs).any (fun v=>decide (v.name=t.name))=true then none else Gn fuel rest (Ag xs++[t]))by rw[Hlin.o,if_neg (by simp[Ag];omega)])
    have Htype:=Aa (fun W=>Qb9 ln W aH);have Htok:=Aa (fun t (h:Fa ln=some t)=>(Gd.1 h).1);clear Hlin;generalize Fa ln=ot at Hlin2 Htype Htok;go_wp2_with fail;refine(Htype.o _).mono ?_;rintro e w2 ⟨hcase,hb2⟩;have hbo:Below wo wo w2:=(below_drewN (Ao _ _) k1).trans (by simpa using hb2);have Hbo:=Aa hbo;cases ot with
    |none=>
     obtain⟨pp,rfl⟩:=hcase;have Hend:=Aa (show B9 s=none by rw[HF.o,Hlin2.o]);go_wp2_with fail;refine Bp [45,46,47,48,49,50,51,52,53,54,55,56,57,58] aN aN aN (fun u=>by dsimp only[Bt,Bq,List.set,am,Nat.reduceAdd])
      (fun i v W=>match i with|0=>v=.bool false|1=>v=.bool true|2=>v=.bool true|13=>v=.bool true|_=>True) (fun L U W=>∃q,W=(w2).drewN q) (fun _ _=>True) (fun _ _ _ _ _ h=>h) ⟨1,rfl⟩ ?_ ?_
     ·repeat (first|exact Ak.nil|(refine Ak.cons ?_ ?_;rotate_left))
      all_goals
       rintro L U W hL hpre ⟨q,rfl⟩ hun hdep K hK;clear hun hdep;first|(simp[Region.binds]at hpre;done)|simp[Region.binds]at hpre|clear hpre
       go_simp;first|exact hK _ _ _ rfl Ac ⟨q,rfl⟩ rfl|exact hK _ _ _ rfl Ac ⟨q,rfl⟩ aI|exact hK undef _ _ Ac Ac ⟨q,rfl⟩ aI|exact hK _ _ _ Ac Ac ⟨q,rfl⟩ rfl|exact hK _ _ _ Ac Ac ⟨q,rfl⟩ aI
     rintro L U W hL hφ ⟨q,rfl⟩;have e13:U 13=.bool true:=hφ 13 aJ;simp only[e13];clear hφ hL;go_wp2_with fail;go_ret2;exact lr
    |some t=>
     obtain⟨x,hxt,rfl,hxb,hxty,hxf⟩:=hcase;subst hxt;have hxb2:wo.heap.size<=x.blk:=by simpa using hxb
     have hxz:x.blk<w2.heap.size:=hxty.1;have y1:w2.cell? (x.blk,1)=x.ty.name:=hxty.2.2.2.1;have u0:=(hbo.cell (p:=⟨w.heap.size+1,0,none⟩) (show w.heap.size+1<wo.heap.size by omega)).trans s0;have u1:=(hbo.cell (p:=⟨w.heap.size+1,1,none⟩) (show w.heap.size+1<wo.heap.size by omega)).trans s1;have Hnm2:=Aa (Dp.below hnm.o hbo);have Hxty:=Aa hxty;have Hxf:=Aa hxf;have Htk:=Aa (Htok.o x.ty rfl);have hnl:x.ty.name.length<=3:=(Ds.1 Htk.o.2.1).2.1;have hlook:∀q,(Instr.lookup 133 (.map (some w.heap.size)) x.ty.name false).run prog (w2.drewN q)=.ok (Pq (D8 xs x.ty.name)) (w2.drewN q):=fun q=>E8 (Dp.below Hnm2.o (below_drewN (Ao _ _) q)) x.ty.name aH;have hz2:wo.heap.size<=w2.heap.size:=hbo.size;clear hbo s0 s1 hxty hxf;unfold PT.ptr;cases hfp:D8 xs x.ty.name with
     |some z=>
      have Hend:=Aa (show B9 s=none by
       rw[HF.o,Hlin2.o];have:(Ag xs).any (fun v=>decide (v.name=x.ty.name))=true:=by
        cases hh:(Ag xs).any (fun v=>decide (v.name=x.ty.name))with
        |true=>rfl
        |false=>rw[Ym.2 hh]at hfp;cases hfp
       simp[this])
      rw[hfp]at hlook;unfold Pq PT.ptr at hlook;clear hfp;go_wp2_with fail;refine Bp [45,46,47,48,49,50,51,52,53,54,55,56,57,58] aN aN aN (fun u=>by dsimp only[Bt,Bq,List.set,am,Nat.reduceAdd])
       (fun i v W=>match i with|0=>v=.bool true|1=>v=.bool false|2=>v=.bool false|3=>v=(w,1,0)|4=>v=(w,1,0)|5=>v=(w,1,1)|6=>v=.map (some w.heap.size)|7=>v=x.blk|8=>v=x.blk|9=>v=(x.blk,1)|10=>v=x.ty.name|11=>v=z.blk|12=>v=.bool true|13=>v=.bool true|_=>True) (fun L U W=>∃q,W=(w2).drewN q) (fun _ _=>True) (fun _ _ _ _ _ h=>h) ⟨1,rfl⟩ ?_ ?_
      ·exact iB
      rintro L U W hL hφ ⟨q,rfl⟩;have e13:U 13=.bool true:=hφ 13 aJ;simp only[e13];clear hφ hL;go_wp2_with fail;go_ret2;exact lr
     |none=>
      have Hany:=Aa (Ym.1 hfp);have Hfp:=Aa hfp;rw[hfp]at hlook;unfold Pq at hlook;clear hfp
      have Hlin3:=Aa (show Gn (s.length+1) s []=Gn fuel rest (Ag (xs++[x]))by
       rw[Hlin2.o];show (if _ then _ else _)=_;rw[if_neg (by rw[Hany.o];decide)];simp[Ag])
      go_wp2_with fail;refine Bp [45,46,47,48,49,50,51,52,53,54,55,56,57,58] aN aN aN (fun u=>by dsimp only[Bt,Bq,List.set,am,Nat.reduceAdd])
       (fun i v W=>match i with|0=>v=.bool true|1=>v=.bool false|2=>v=.bool false|3=>v=(w,1,0)|4=>v=(w,1,0)|5=>v=(w,1,1)|6=>v=.map (some w.heap.size)|7=>v=x.blk|8=>v=x.blk|9=>v=(x.blk,1)|10=>v=x.ty.name|11=>v=.pointer none|12=>v=.bool false|13=>v=.bool false|_=>True) (fun L U W=>∃q,W=(w2).drewN q) (fun _ _=>True) (fun _ _ _ _ _ h=>h) ⟨1,rfl⟩ ?_ ?_
      ·exact iB
      rintro L U W hL hφ ⟨q,rfl⟩;have e13:U 13=.bool false:=hφ 13 aJ;simp only[e13];clear hφ hL;obtain⟨w3,hw3⟩:∃w3,w3=w2.drewN q:=⟨_,rfl⟩
      rw[<-hw3];have hb3:Below wo wo w3:=by rw[hw3];exact below_drewN Hbo.o _
      have hb23:Below w2 w2 w3:=by rw[hw3];exact below_drewN (Ao _ _) _
      have Hx3:=Aa (Hxty.o.below hb23);have hown3:=Ct hown.o hb3;have hT3:=Ah hT.o (show w.heap.size+1<wo.heap.size by omega) hb3;have hK3:=Aj hK.o (show w.heap.size+1<wo.heap.size by omega) hb3;have hz3:wo.heap.size<=w3.heap.size:=hb3.size;have v0:w3.cell? (w,1,0)=some (.slice A xs.length cA):=by simpa using Ab hT3 0 rfl
      have Hb3:=Aa hb3;have Hown3:=Aa hown3;have HT3:=Aa hT3;have HK3:=Aa hK3;have Hnm3:=Aa (Dp.below Hnm2.o hb23);have Hb23:=Aa hb23;clear hlook hb3 hown3 hT3 hK3 hw3 hb23 u0 u1 y1;go_wp2_with (at_builtin;refine Ff _ rfl _ _ 132 rfl (w.heap.size+2) 90 (.pointer none) 8 underlying132 Tryz.infoPt rfl w3 x.blk rfl rfl (.slice A xs.length cA) xs.length (xs.map (·.ptr)) rfl rfl Hown3.o aU aH aH ?_;intro v5 w5 hown5 hg5 hwh;have hb5:Below (w.heap.size+2) w3 w5:=(Ao _ _).grown hg5 aH (fun k hk=>(Hown3.o.lt k hk).1);have HT5:=Aa (Ah HT3.o (show w.heap.size+1<w.heap.size+2 by omega) hb5);have HK5:=Aa (Aj HK3.o (show w.heap.size+1<w.heap.size+2 by omega) hb5);have Hnm5:=Aa (Dp.belowAt Hnm3.o (show w.heap.size<w.heap.size+2 by omega) hb5);have Hty5:=Aa (Zk.push hty.o Hb3.o hown.o Hx3.o hxb2 (fun k hk=>(by have:=Hxf.o k hk;simpa using this)) aH hg5 hwh);obtain⟨A5,n5,c5,e5⟩:=Ed hown5;subst e5;have Hown5:=Aa hown5;have Hb5:=Aa hb5;have p0:w5.cell? (w,1,0)=some (.slice A xs.length cA):=(by simpa using Ab HT5.o 0 rfl);have f0:w5.frozen? (w,1,0)=false:=(by simpa using(HK5.o 0 aJ).2);have hz5:w3.heap.size<=w5.heap.size:=hg5.size;clear hown5 hg5 hwh hb5 v0)
      obtain⟨w6,hw6⟩:∃w6,w6=w5.setCell ⟨w.heap.size+1,0,none⟩ (.slice A5 n5 c5):=⟨_,rfl⟩
      rw[<-hw6];have hg6:w5.grownBy w6 (some (w.heap.size+1)):=by rw[hw6];exact Mk _ _ _
      have hT6:w6.rangeAt (w.heap.size+1) 0 [.slice A5 n5 c5,.map (some w.heap.size)]:=by rw[hw6];exact Cm [] [.slice A xs.length cA] [.map (some w.heap.size)] [.slice A5 n5 c5] HT5.o rfl
      have hK6:w6.there (w.heap.size+1) 0 2:=by rw[hw6];exact ai HK5.o (w.heap.size+1) 0 [.slice A5 n5 c5]
      have Hown6:=Aa (Hown5.o.kept hg6 (.inr (fun e=>by have:=(Hown5.o.lt _ e).1;omega)));have Hnm6:=Aa (Dp.kept Hnm5.o hg6 aK);have Hty6:=Aa (Hty5.o.far hg6 aH);have Hb6:=@Aa (Below w w w6) (((hbr.o.trans (Hb3.o.mono aH)).trans (Hb5.o.mono aH)).trans (by rw[hw6];exact(Ao _ _).setCell aK _));have hz6:w.heap.size+2<=w6.heap.size:=ad aH hg6.size;have m1:w6.cell? (w,1,1)=some (.map (some w.heap.size)):=by simpa using Ab hT6 1 rfl
      have n1:w6.cell? (x.blk,1)=x.ty.name:=(Hty6.o.1 x aK).1.2.2.2.1;have HT6:=Aa hT6;have HK6:=Aa hK6;clear hw6 hg6 hT6 hK6 p0 f0;refine Bp [69,70,71,72,73,74,75,76,77,999] aN aN aN (fun u=>by dsimp only[Bt,Bq,List.set,am,Nat.reduceAdd])
       (fun i v W=>match i with|0=>v=(w,1,0)|1=>v=(w,1,0)|2=>v=(w,1,1)|3=>v=.map (some w.heap.size)|4=>v=x.blk|5=>v=x.blk|6=>v=(x.blk,1)|7=>v=x.ty.name|8=>v=x.blk|_=>True) (fun L U W=>∃q,(L 9=false->W=w6.drewN q)/\(L 9=true->(w6.drewN q).grownBy W (some w.heap.size)/\Qo W w.heap.size (xs++[x]))) (fun _ _=>True) (fun _ _ _ _ _ h=>h) ⟨1,fun _=>rfl,by simp⟩ ?_ ?_
      ·repeat (first|exact Ak.nil|(refine Ak.cons ?_ ?_;rotate_left))
       all_goals
        rintro L U W hL hpre ⟨q,hq1,hq2⟩ hun hdep K hK;have Hdep:=Aa hdep;have Hq2:=Aa hq2;clear hun hdep hq2;first|(simp[Region.binds]at hpre;done)|simp[Region.binds]at hpre|clear hpre
       ·obtain rfl:=hq1 (Bb Hdep.o 9 3 rfl (Bb Hdep.o 3 2 rfl (Bb Hdep.o 2 1 rfl (Bb Hdep.o 1 0 rfl hL))));exact lu
       ·obtain rfl:=hq1 (Bb Hdep.o 9 3 rfl (Bb Hdep.o 3 2 rfl (Bb Hdep.o 2 1 rfl hL)));exact lu
       ·obtain rfl:=hq1 (Bb Hdep.o 9 3 rfl (Bb Hdep.o 3 2 rfl hL));exact lu
       ·obtain rfl:=hq1 (Bb Hdep.o 9 3 rfl hL);exact lu
       ·obtain rfl:=hq1 (Bb Hdep.o 9 7 rfl (Bb Hdep.o 7 6 rfl (Bb Hdep.o 6 5 rfl (Bb Hdep.o 5 4 rfl hL))));exact lu
       ·obtain rfl:=hq1 (Bb Hdep.o 9 7 rfl (Bb Hdep.o 7 6 rfl (Bb Hdep.o 6 5 rfl hL)));exact lu
       ·obtain rfl:=hq1 (Bb Hdep.o 9 7 rfl (Bb Hdep.o 7 6 rfl hL));exact lu
       ·obtain rfl:=hq1 (Bb Hdep.o 9 7 rfl hL);exact lu
       ·obtain rfl:=hq1 (Bb Hdep.o 9 8 rfl hL);exact lu
       ·obtain rfl:=hq1 hL;obtain⟨w7,hrun,r1,r2⟩:=Dp.store (Dp.below Hnm6.o (below_drewN (Ao _ _) q)) Tryz.keyStr underlying133 aU x.blk (Qgm (n:=x.ty.name) aH);have hn7:Qo w7 w.heap.size (xs++[x]):=by
         unfold Qo;rw[ah];exact r1.of_eq (fun l hl=>Qda Hfp.o l hl)
        have R2:=Aa r2;have Hn7:=Aa hn7;clear r1 r2 hn7;go_simp;exact hK undef _ _ Ac Ac ⟨q,fun h=>by simp at h,fun _=>⟨R2.o,Hn7.o⟩⟩ aI
      rintro L U W hL hφ ⟨q,_,hq2⟩;obtain⟨hg7,hn7⟩:=hq2 (hL 9 aJ);have hzq:w6.heap.size<=W.heap.size:=by have:=hg7.size;simpa using this
      have hb7:Below w w W:=(below_drewN Hb6.o q).grown hg7 aM (fun k hk=>by injection hk with hk;omega);have HT7:=Aa (C0 (Ah HT6.o (show w.heap.size+1<w6.heap.size by omega) (below_drewN (Ao _ _) q)) hg7 aK);have HK7:=Aa (Eu (Aj HK6.o (show w.heap.size+1<w6.heap.size by omega) (below_drewN (Ao _ _) q)) hg7 aM aK);have Hown7:=Aa ((Ct Hown6.o (below_drewN (Ao _ _) q)).kept hg7 (.inr (fun e=>by have:=(Hown6.o.lt _ e).1;omega)));have Hty7:=Aa ((Hty6.o.below (below_drewN (Ao _ _) q)).far hg7 aH);have Hn7:=Aa hn7;have Hb7:=Aa hb7;clear hL hφ hq2 hg7 hn7 hb7 m1 n1;go_wp2_with fail;go_roundw
      case rel=>exact⟨rest,fuel,xs++[x],.slice A5 n5 c5,rfl,by omega,by omega,Hlin3.o,by simp;omega,HT7.o,HK7.o,by rw[ah,az];exact Hown7.o,Hn7.o,Hty7.o,Hb7.o,by omega⟩
      case measure=>rw[Mi,Mi];omega
theorem Mz(s:List UInt8)(w:World)(hs:s.length<=4000000):
  Calls prog 61 #[s] w (Jm (B9 s) w):=by
 by_cases h:400<s.length
 ·exact Qcl s w hs h
 exact Qfk s w aH
theorem Dn(b:Nat):∀(vs:List Value) (o:Nat) (w:World),w.grownBy (w.setCells b o vs) (some b)
 |[],_,w=>World.grownBy.refl _ _
 |v::r,o,w=>(Mk w ⟨b,o,none⟩ v).trans (Dn b r (o+1) _)
def Pn(o:Option (List Ty × Kd))(w:World)(e:Ending)(w':World):Prop:=
 (match o with
  |some x=>∃p xs,Ag xs=x.1/\e=.returned (.tuple #[p,D9 x.2,.bool true])/\Qa w.heap.size w' p xs
  |none=>∃(p:Option Addr) (a b c:ByteArray),e=.returned (.tuple #[.pointer p,.agg #[.string a,.string b,.string c],.bool false]))/\Below w w w'
theorem Pn.no{w w':World}{e:Ending}{o:Option (List Ty × Kd)}(ho:o=none){p:Option Addr}{a b c:ByteArray}(he:e=.returned (.tuple #[.pointer p,.agg #[.string a,.string b,.string c],.bool false]))(hb:Below w w w'):Pn o w e w':=by
 rw[ho];exact⟨⟨p,a,b,c,he⟩,hb⟩
theorem Tx(s d:List UInt8)(w:World)(hs:s.length<=4000000)(hd:d.length<=4000000):
  Calls prog 41 #[s,d] w (Pn (Bm s d) w):=by
 have Hrs:=Aa (fun W=>Mz s W hs);have Hrk:=Aa (fun W=>Ps d W hd);have HF:=@Aa (Bm s d=(match B9 s with|none=>none|some S=>match Cs d with|none=>none|some k=>if B6 S k then some (S,k)else none)) rfl;have Hkok:=Aa (fun k (h:Cs d=some k)=>(Eg.1 h).1);generalize B9 s=oS at HF Hrs;generalize Cs d=oK at HF Hrk Hkok;go_enter func41,ntmps41;go_wp2_with fail;refine(Hrs.o _).mono ?_;rintro e w1 ⟨hcase,hb1⟩;have hz1:w.heap.size<w1.heap.size:=eG;have HT1:=@Aa (w1.there w 0 3) (Aj (Bz w [a6,a6,a6] 60) aK hb1);have Hb1:=@Aa (Below w w w1) (((Ao _ _).alloc (An _) _).trans (hb1.mono aK));clear hb1;cases oS with
 |none=>
  obtain⟨p,rfl⟩:=hcase;go_wp2_with ((with_reducible refine Af (op:=⟨none,.store 60 _ _,_,_,_,none⟩) rfl 60 _ _ rfl w 0 [a6,a6,a6] ?_ ?_ ?_ ?_ ?_ ?_);rfl;rfl;(exact HT1.o);kernel_rfl;(simp[Value.oneCell']);intro w9 HS9)
  have HZ:=@Aa (w9.rangeAt w 0 [a6,a6,a6]) (by rw[HS9.o];exact aa _ _ _ _ HT1.o);refine aF (v:=.tuple #[.pointer none,.agg ([a6,a6,a6]:List Value).toArray,.bool false]) ?_ rfl ?_
  ·exact Eb results41 _ _ w.heap.size [a6,a6,a6] _ _ _ rfl rfl rfl HZ.o underlying60 rfl aN
  exact Pn.no HF.o rfl (by rw[HS9.o];exact Ai _ (An _) _ _ _ Hb1.o)
 |some S=>
  obtain⟨p,xs,hxs,rfl,hsl⟩:=hcase;subst hxs;have Hsl:=@Aa (Qa (w.heap.size+1) w1 p xs) (by simpa using hsl);obtain⟨pb,_,_,_,hp,_⟩:=hsl;subst hp;go_wp2_with fail;refine(Hrk.o _).mono ?_;rintro e w2 ⟨hcase,hb2⟩;cases oK with
  |none=>
   obtain⟨a1,a2,a3,rfl⟩:=hcase;have hz4:w2.heap.size<(w2.alloc (.cells #[.string a1,.string a2,.string a3] 60)).heap.size:=aK;have hz2:w.heap.size<w2.heap.size:=by have:=hb2.size;omega
   have HT4:=@Aa ((w2.alloc (.cells #[.string a1,.string a2,.string a3] 60)).there w 0 3) (ar (Aj HT1.o hz1 hb2) _);have HX4:=@Aa ((w2.alloc (.cells #[.string a1,.string a2,.string a3] 60)).rangeAt w2 0 [.string a1,.string a2,.string a3]) (Bo w2 [.string a1,.string a2,.string a3] _);have Hsl4:=@Aa (Qa (w.heap.size+1) (w2.alloc (.cells #[.string a1,.string a2,.string a3] 60)) pb xs) ((Hsl.o.below hb2).below ((Ao _ _).alloc (An _) _));have Hb4:=@Aa (Below w w (w2.alloc (.cells #[.string a1,.string a2,.string a3] 60))) ((Hb1.o.trans (hb2.mono Hb1.o.size)).alloc aH _);clear hb2;go_wp2_with fail;refine Bp [23,24,25,26,27,28,29,30,4,999,6] aN aN aN (fun u=>by dsimp only[Bt,Bq,List.set,am,Nat.reduceAdd])
    (fun i v W=>match i with|0=>v=pb|1=>v=.agg ([.string a1,.string a2,.string a3]:List Value).toArray|2=>v=.bool false|3=>v=.bool false|7=>v=.bool false|8=>v=pb|10=>v=.bool false|_=>True) (fun L U W=>Below w w W/\w2.heap.size<W.heap.size/\W.there w 0 3/\W.rangeAt w2 0 [.string a1,.string a2,.string a3]/\Qa (w.heap.size+1) W pb xs/\(L 9=true->W.rangeAt w 0 [.string a1,.string a2,.string a3])) (fun _ _=>True) (fun _ _ _ _ _ h=>h) ⟨Hb4.o.drew,by simp,by simpa using HT4.o,by simpa using HX4.o,Hsl4.o.below ((Ao _ _).drew),by simp⟩ ?_ ?_
   ·repeat (first|exact Ak.nil|(refine Ak.cons ?_ ?_;rotate_left))
    all_goals
     rintro L U W hL hpre hR hun hdep K hK;have HR:=Aa hR;obtain⟨_,_,_,hxr,_,_⟩:=hR;have c0:W.cell? (w2,0)=some (.string a1):=by simpa using Ab hxr 0 rfl
     have c1:W.cell? (w2,1)=some (.string a2):=by simpa using Ab hxr 1 rfl
     have c2:W.cell? (w2,2)=some (.string a3):=by simpa using Ab hxr 2 rfl
     clear hun hdep hxr;first|(simp[Region.binds]at hpre;done)|simp[Region.binds]at hpre|clear hpre
    iterate 9 exact ib
    ·obtain⟨r1,r2,r3,r4,r5,r6⟩:=HR.o;rw[if_pos cr];refine wp_store_mid 60 _ _ rfl w 0 ([.string a1,.string a2,.string a3]:List Value).toArray rfl hpre.1.2 r3 aN bh ?_;exact lx
    ·exact ib
   rintro L U W hL hφ ⟨r1,r2,r3,r4,r5,r6⟩;have e8:U 8=pb:=hφ 8 aJ;have e10:U 10=.bool false:=hφ 10 aJ;have hr0:=r6 (hL 9 aJ);simp only[e8,e10];have R1:=Aa r1;have R5:=Aa r5;have R0:=Aa hr0;clear hL hφ r1 r2 r3 r4 r5 r6 hr0;go_wp2_with fail;refine aF (v:=.tuple #[pb,.agg ([.string a1,.string a2,.string a3]:List Value).toArray,.bool false]) ?_ rfl ?_
   ·exact Eb results41 _ _ w.heap.size [.string a1,.string a2,.string a3] _ _ _ rfl rfl rfl R0.o underlying60 rfl aN
   exact Pn.no HF.o rfl R1.o
  |some k=>
   have hcase':e=.returned (.tuple #[.agg #[k.signs,k.base,k.name],.bool true]):=hcase;subst hcase';clear hcase;have hkn:k.name.length<=100:=ad (Fv (Hkok.o k rfl)) aJ;have hz4:w2.heap.size<(w2.alloc (.cells #[k.signs,k.base,k.name] 60)).heap.size:=aK;have hz2:w.heap.size<w2.heap.size:=by have:=hb2.size;omega
   have HT4:=@Aa ((w2.alloc (.cells #[k.signs,k.base,k.name] 60)).there w 0 3) (ar (Aj HT1.o hz1 hb2) _);have HX4:=@Aa ((w2.alloc (.cells #[k.signs,k.base,k.name] 60)).rangeAt w2 0 [k.signs,k.base,k.name]) (Bo w2 [k.signs,k.base,k.name] _);have Hsl4:=@Aa (Qa (w.heap.size+1) (w2.alloc (.cells #[k.signs,k.base,k.name] 60)) pb xs) ((Hsl.o.below hb2).below ((Ao _ _).alloc (An _) _));have Hb4:=@Aa (Below w w (w2.alloc (.cells #[k.signs,k.base,k.name] 60))) ((Hb1.o.trans (hb2.mono Hb1.o.size)).alloc aH _);clear hb2;go_wp2_with fail;have HF3:=@Aa (Bm s d=if B6 (Ag xs) k then some (Ag xs,k)else none) HF.o;refine Bp [23,24,25,26,27,28,29,30,4,999,6] aN aN aN (fun u=>by dsimp only[Bt,Bq,List.set,am,Nat.reduceAdd])
    (fun i v W=>match i with|0=>v=pb|1=>v=.agg ([k.signs,k.base,k.name]:List Value).toArray|2=>v=.bool true|3=>v=.bool true|4=>v=pb|5=>v=.agg ([k.signs,k.base,k.name]:List Value).toArray|6=>v=.bool (decide (B6 (Ag xs) k))|7=>v=.bool (decide (B6 (Ag xs) k))|8=>v=pb|10=>v=.bool (decide (B6 (Ag xs) k))|_=>True) (fun L U W=>Below w w W/\w2.heap.size<W.heap.size/\W.there w 0 3/\W.rangeAt w2 0 [k.signs,k.base,k.name]/\Qa (w.heap.size+1) W pb xs/\(L 9=true->W.rangeAt w 0 [k.signs,k.base,k.name])) (fun _ _=>True) (fun _ _ _ _ _ h=>h) ⟨Hb4.o.drew,by simp,by simpa using HT4.o,by simpa using HX4.o,Hsl4.o.below ((Ao _ _).drew),by simp⟩ ?_ ?_
   ·repeat (first|exact Ak.nil|(refine Ak.cons ?_ ?_;rotate_left))
    all_goals
     rintro L U W hL hpre hR hun hdep K hK;have HR:=Aa hR;obtain⟨_,_,_,hxr,_,_⟩:=hR;have c0:W.cell? (w2,0)=k.signs:=by simpa using Ab hxr 0 rfl
     have c1:W.cell? (w2,1)=k.base:=by simpa using Ab hxr 1 rfl
     have c2:W.cell? (w2,2)=k.name:=by simpa using Ab hxr 2 rfl
     clear hun hdep hxr;first|(simp[Region.binds]at hpre;done)|simp[Region.binds]at hpre|clear hpre
    iterate 6 exact ib
    ·go_simp;obtain⟨r1,r2,r3,r4,r5,r6⟩:=HR.o;refine(Qdz _ xs k W r5.isc.map hkn).mono ?_;rintro e w5 ⟨rfl,hb5⟩;exact hK (.bool (decide (B6 (Ag xs) k))) _ _ rfl Ac ⟨r1.trans (hb5.mono r1.size),ac r2 hb5.size,Aj r3 (show w.heap.size<W.heap.size by omega) hb5,Ah r4 r2 hb5,r5.below hb5,fun h=>Ah (r6 h) (show w.heap.size<W.heap.size by omega) hb5⟩ aI
    ·exact ib
    ·exact ib
    ·obtain⟨r1,r2,r3,r4,r5,r6⟩:=HR.o;rw[if_pos cr];refine wp_store_mid 60 _ _ rfl w 0 ([k.signs,k.base,k.name]:List Value).toArray rfl hpre.1.2 r3 aN bh ?_;exact lx
    ·exact ib
   rintro L U W hL hφ ⟨r1,r2,r3,r4,r5,r6⟩;have e8:U 8=pb:=hφ 8 aJ;have e10:U 10=.bool (decide (B6 (Ag xs) k)):=hφ 10 aJ;have hr0:=r6 (hL 9 aJ);simp only[e8,e10];have R1:=Aa r1;have R5:=Aa r5;have R0:=Aa hr0;clear hL hφ r1 r2 r3 r4 r5 r6 hr0;go_wp2_with fail;refine aF (v:=.tuple #[pb,.agg ([k.signs,k.base,k.name]:List Value).toArray,.bool (decide (B6 (Ag xs) k))]) ?_ rfl ?_
   ·exact Eb results41 _ _ w.heap.size [k.signs,k.base,k.name] _ _ _ rfl rfl rfl R0.o underlying60 rfl aN
   by_cases hr:B6 (Ag xs) k
   ·rw[aD hr];unfold Pn;rw[HF3.o,if_pos hr]
    exact⟨⟨_,xs,rfl,rfl,by
     obtain⟨b,A,c,mb,q0,q1,q2,q3,q4,q5,q6,q7,l1,l2,l3,l4⟩:=R5.o;exact⟨b,A,c,mb,q0,q1,q2,q3,q4,q5,q6,q7,by omega,by omega,fun g o h1 h2=>by have:=l3 g o h1 h2;omega,fun x hx=>⟨by have:=(l4 x hx).1;omega,fun k h1 h2=>by have:=(l4 x hx).2 k h1 h2;omega⟩⟩⟩,R1.o⟩
   rw[aC hr];exact Pn.no (HF3.o.trans (if_neg hr)) rfl R1.o
def J7(B:Nat)(w:World)(v:Value):Option Fd->Prop
 |none=>v=.pointer none
 |some f=>∃b o,v=.pointer (some ⟨b,o,none⟩)/\b<B/\w.rangeAt b o (Rt f)
theorem J7.below{B:Nat}{w w':World}{v:Value}{o:Option Fd}(h:J7 B w v o)(hb:Below B w w'):J7 B w' v o:=by
 cases o with
 |none=>exact h
 |some f=>obtain⟨b,o,e,h1,h2⟩:=h;exact⟨b,o,e,h1,Ah h2 h1 hb⟩
def Qlq(B:Nat)(o:Option Fd)(w:World)(e:Ending)(w':World):Prop:=∃v,e=.returned v/\J7 B w v o/\w=w'
theorem Ke(w0:World)(x:PT)(hx:P8 w0 x)(n:Nat)(w:World)(hb:Below w0 w0 w)(hn:n<=1000000000):
  Calls prog 57 #[x.blk,.int .i64 n] w (Qlq w0.heap.size (Au x.ty.fields n) w):=by
 obtain⟨z0,_,_,_,z3,_,A,c,hfv,hl,hr⟩:=hx;rw[hfv]at z3;have c2:w.cell? (x.blk,2)=some (.slice A x.ty.fields.length c):=(hb.cell (p:=⟨x.blk,2,none⟩) z0).trans z3;have Hr:=Aa hr;have Hb:=Aa hb;clear hr hfv z3 hb;go_enter func57,ntmps57;go_wp2_with fail;go_loop [11] (fun i=>∃k:Nat,i=.int .i64 k/\k<=x.ty.fields.length/\Hid (∀f∈x.ty.fields.take k,decide (f.tag=n)=false)) (fun i=>x.ty.fields.length - (intOf i).toNat)
 case atStart=>exact⟨0,rfl,ag _,by intro f hf;simp at hf⟩
 case round=>
  obtain⟨k,rfl,hk,hin⟩:=hrel;by_cases hlt:k<x.ty.fields.length
  ·obtain⟨b,off,rfl,hbl,hrg⟩:=Q5.range Hr.o hlt;have hrw:=Ah hrg hbl Hb.o;have Hts:=Aa (Cb x.ty.fields k hlt);have Hft:=Aa (Ri (p:=fun f=>decide (f.tag=n)) hlt hin.o);generalize x.ty.fields[k]=f at hrg hrw Hts Hft;have c0:w.cell? ⟨b,off+k*6,none⟩=(f.tag:Int):=by simpa using Ab hrw 0 rfl
   have Hrw:=Aa hrw;clear hrw hrg;have k1:(0:Int)<=(k:Int):=aH;have k2:(k:Int)<(x.ty.fields.length:Int):=aH;by_cases he:f.tag=n
   ·have t1:((f.tag:Int) == (n:Int))=true:=by simp[he]
    have Hfin:=Aa (show Au x.ty.fields n=some f by unfold Au;rw[Hft.o,if_pos de]);clear he;go_wp2_with fail;go_ret;exact⟨_,rfl,by rw[Hfin.o];exact⟨b,off+k*6,rfl,hbl,Hrw.o⟩,rfl⟩
   have t1:((f.tag:Int) == (n:Int))=false:=cq
   have Hin:=Aa (show ∀g∈x.ty.fields.take (k+1),decide (g.tag=n)=false by
    intro g hg;rw[Hts.o]at hg;rcases af.1 hg with hg|hg
    ·exact hin.o g hg
    simp at hg;subst hg;simpa using he)
   clear he;go_wp2_with fail;go_round
   case rel=>exact⟨k+1,by go_num,by omega,Hin.o⟩
   case measure=>simp[intOf];omega
  ·have Hfin:=@Aa (Au x.ty.fields n=none) (Nq (fun f hf=>hin.o f dO));go_wp2_with fail;go_ret;exact⟨_,rfl,by rw[Hfin.o];rfl,rfl⟩
theorem Qbl(p:Value)(c:UInt8)(t:List UInt8)(b nm:ByteArray)(w:World)(hc:c=91\/c=63)(hl:t.length<=1000):
  Calls prog 118 #[p,.agg #[.string ⟨(c::t).toArray⟩,.string b,.string nm]] w (Fz (Qg3 c) w):=by
 rcases hc with rfl|rfl
 ·go_enter func118,ntmps118;go_wp2_with fail;refine(My 91 t hl _ _ _).mono ?_;rintro e w1 ⟨rfl,hb1⟩;go_wp2_with fail;exact lA
 go_enter func118,ntmps118;go_wp2_with fail;refine(My 63 t hl _ _ _).mono ?_;rintro e w1 ⟨rfl,hb1⟩;go_wp2_with fail;exact lA
theorem Z9(p:Value)(b:List UInt8)(nm:ByteArray)(w:World)(hb:b=[110]\/b=[116]\/b=[102]):
  Calls prog 118 #[p,.agg #[a6,b,.string nm]] w (Fz (Zo b) w):=by
 rcases hb with rfl|rfl|rfl<;>
 ·go_enter func118,ntmps118;go_wp2_with fail;refine(Ki _ _ _).mono ?_;rintro e w1 ⟨rfl,hb1⟩;obtain⟨hc1,_,_⟩:=Cj hb1;have y1:=hc1 w 1 aK;simp at y1;clear hc1;have Hb1:=Aa (((Ao w.heap.size w).alloc (An _) _).trans (hb1.mono aK));clear hb1;go_wp2_with fail;go_ret;exact⟨rfl,Hb1.o⟩
def kcs(k:Kd):List Value:=[k.signs,k.base,k.name]
def Gl(v:Vl)(sl:Value):List Value:=[.int .u8 (v.what.toNat:Int),v.text,(v.tag:Int),sl]
def M0(w:World)(b:Nat)(p:Value)(k:Kd)(t:List UInt8)(bad:Bool)(W:World):Prop:=
 Dz w b p t bad W/\W.rangeAt w 0 (kcs k)/\W.there (w.heap.size+1) 0 4/\w.heap.size+1<W.heap.size
theorem M0.init{w:World}{b:Nat}{p:Value}{k:Kd}{t:List UInt8}{bad:Bool}(h:H6 w b p t bad){T U:TypeId}:M0 w b p k t bad ((w.alloc (.cells #[k.signs,k.base,k.name] T)).alloc (.cells #[.int .u8 0,a6,.int .i64 0,.slice none 0 0] U)):=by
 have h1:Below w w ((w.alloc (.cells #[k.signs,k.base,k.name] T)).alloc (.cells #[.int .u8 0,a6,.int .i64 0,.slice none 0 0] U)):=((Ao _ _).alloc (An _) _).alloc aK _;refine⟨⟨h.grow h1,Ci h1 _⟩,?_,?_,by simp⟩
 ·have:=Ah (Bo w (kcs k) T) (show w.heap.size<(w.alloc (.cells (kcs k).toArray T)).heap.size by simp) ((Ao _ _).alloc (An _) (.cells #[.int .u8 0,a6,.int .i64 0,.slice none 0 0] U));exact this
 have:=Bz (w.alloc (.cells #[k.signs,k.base,k.name] T)) [.int .u8 0,a6,.int .i64 0,.slice none 0 0] U;simpa using this
theorem M0.post{w W W':World}{b:Nat}{p:Value}{k:Kd}{t:List UInt8}{bad:Bool}(h:M0 w b p k t bad W)(hb:Below W W W'):M0 w b p k t bad W':=
 ⟨h.1.post hb,Ah h.2.1 (by have:=h.2.2.2;omega) hb,Aj h.2.2.1 h.2.2.2 hb,ac h.2.2.2 hb.size⟩
theorem M0.step{w W W':World}{b:Nat}{p:Value}{k:Kd}{t t':List UInt8}{bad bad':Bool}(h:M0 w b p k t bad W)(hb:b<w.heap.size)(hs:Dz W b p t' bad' W'):M0 w b p k t' bad' W':=
 ⟨h.1.trans hs,C0 h.2.1 hs.2 aM,Eu h.2.2.1 hs.2 h.2.2.2 aM,ac h.2.2.2 hs.2.size⟩
theorem M0.fin{w W w9:World}{b N:Nat}{p:Value}{k:Kd}{t t':List UInt8}{bad':Bool}{v:Vl}{sl:Value}{r:Option (Vl × List UInt8)}(F:M0 w b p k t' bad' W)(hb:b<w.heap.size)(HS:w9=W.setCells (w.heap.size+1) 0 (Gl v sl))
  (hv:Ea (fun c=>w.heap.size+2<=c) W sl v.kids) (hr:bad'=r.isNone) (hx:∀x,r=some x->v=x.1/\t'=x.2) (hB:Bd v) (hl:t'.length<=t.length) (hn:(Az v).length+t'.length<=t.length+8*N):
  M4 w b p t N r (.returned (.agg (Gl v sl).toArray)) w9/\w9.rangeAt (w.heap.size+1) 0 (Gl v sl):=by
 subst HS hr;exact⟨⟨v,sl,t',rfl,(hv.set (B:=w.heap.size+1) aH _).mono fun c hc _=>by omega,F.1.set aH aH _,hx,hB,hl,hn⟩,aa _ _ _ _ F.2.2.1⟩
theorem Yx(b N:Nat)(p:Value)(t:List UInt8)(k:Kd)(w:World)(h:H6 w b p t true):
  Calls prog 87 #[b,D9 k] w (M4 w b p t N none):=by
 have HS:=Aa h;obtain⟨h0,h1,h2,h3,h4⟩:=h;have hbn:¬(b=w.heap.size):=aH;have hbn2:¬(b=w.heap.size+1):=aH;unfold D9;clear h1 h2 h3;go_enter func87,ntmps87;go_wp2_with fail;have F:=(M0.init (k:=k) HS.o (T:=60) (U:=68)).1;refine aF (v:=.agg (Gl Et (.slice none 0 0)).toArray) ?_ rfl ⟨Et,.slice none 0 0,t,rfl,Ea.nil _ _,F,aK,Fo aJ aJ,An _,by simp[Et,Az,D3,H4]⟩;refine Bh results87 _ _ (w.heap.size+1) _ _ rfl ?_ underlying68 rfl aN;have:=Bo (w.alloc (.cells #[k.signs,k.base,k.name] 60)) [.int .u8 0,a6,.int .i64 0,.slice none 0 0] 68;simpa [Gl,Et,Vl.what,Vl.text,Vl.tag]using this
theorem Qdh(t:List UInt8):Sm t=if Je 999999 t then some (J0 t,t.dropWhile Bl)else none:=by
 unfold Sm Je J0;cases h:Cx (t.takeWhile Bl)with
 |none=>simp
 |some n=>simp[(Cl.1 h).1]
theorem Qbp(t:List UInt8):J0 t<=999999:=by
 unfold J0;cases h:Cx (t.takeWhile Bl)with
 |none=>simp
 |some n=>exact(Cl.1 h).1
theorem Qbu(p:UInt8->Bool)(t:List UInt8):(t.dropWhile p).length<=t.length:=(Th p t).2
theorem Qkc(b N:Nat)(p:Value)(t:List UInt8)(k:Kd)(w:World)(h:H6 w b p t false)(hl:t.length<=900)(hs:k.signs=[])(hb:k.base=[110])(q:Option (Vl × List UInt8))(hq:q=match Sm t with|some (n,r)=>some (.mk 110 (Ba n) 0 [],r)|none=>none):
  Calls prog 87 #[b,D9 k] w (M4 w b p t (N+1) q):=by
 have HQ:=Aa hq;have HS:=Aa h;have hb0:=h.1;have hbn:¬(b=w.heap.size):=aH;have hbn2:¬(b=w.heap.size+1):=aH;have c2:=h.2.2.2.2;clear hq;obtain⟨sg,bs,nm⟩:=k;simp only at hs hb;have HN:=Aa (Qdh t);have hnn:=Qbp t;have Hn:=Aa (fun W (h:H6 W b p t false)=>Qp b 999999 p t false W h aH aJ);have Hd:=Aa (fun W=>Qj (J0 t) (J0 t) W (An _) aH);have hdl:=Da 5 (J0 t) en;have hdr:=Qbu Bl t;generalize J0 t=n at *;generalize Je 999999 t=ok at *;generalize t.dropWhile Bl=r at *;subst hs hb;unfold D9;simp only;clear h;go_enter func87,ntmps87;go_wp2_with fail;refine(Ki _ _ _).mono ?_;rintro e w2 ⟨rfl,hb2⟩;have F2:=Aa ((M0.init (k:=⟨[],[110],nm⟩) HS.o).post hb2);clear hb2 c2;have k0:=Ab F2.o.2.1 0 rfl;have k1:=Ab F2.o.2.1 1 rfl;have k2:=Ab F2.o.2.1 2 rfl;simp only[am]at k0 k1 k2;have s2:=F2.o.1.1.2.2.2.2;go_wp2_with fail;refine(Hn.o _ F2.o.1.1).mono ?_;rintro e w3 ⟨rfl,hs3⟩;have F3:=Aa (F2.o.step hb0 hs3);clear hs3 k0 k1 k2 s2;go_wp2_with fail;refine(Hd.o _).mono ?_;rintro e w4 ⟨rfl,hb4⟩;have F4:=Aa (F3.o.post hb4);clear hb4;go_wp2_with ((with_reducible refine Af (op:=⟨none,.store 68 _ _,_,_,_,none⟩) rfl 68 _ _ rfl (w.heap.size+1) 0 [.int .u8 110,.string ⟨(Ba n).toArray⟩,.int .i64 0,.slice none 0 0] ?_ ?_ ?_ ?_ ?_ ?_);rfl;rfl;(exact F4.o.2.2.1);kernel_rfl;(simp[Value.oneCell']);intro w9 HS9)
 have HQ:=HQ.o;rw[HN.o]at HQ;have Z:=M0.fin (t:=t) (N:=N+1) (v:=.mk 110 (Ba n) 0 []) (sl:=.slice none 0 0) (r:=q) F4.o hb0 HS9.o (Ea.nil _ _) (by rw[HQ];cases ok<;>rfl)
  (by rw[HQ];cases ok<;>simp) (Fo aJ aH) hdr fX
 exact aF (v:=.agg (Gl (.mk 110 (Ba n) 0 []) (.slice none 0 0)).toArray) (Bh results87 _ _ (w.heap.size+1) _ _ rfl Z.2 underlying68 rfl aN) rfl Z.1
theorem Qkn(b N:Nat)(p:Value)(t:List UInt8)(k:Kd)(w:World)(h:H6 w b p t false)(hl:t.length<=900)(hs:k.signs=[])(hb:k.base=[116])(q:Option (Vl × List UInt8))(hq:q=match Pd t with|some (x,r)=>some (.mk 116 x 0 [],r)|none=>none):
  Calls prog 87 #[b,D9 k] w (M4 w b p t (N+1) q):=by
 have HQ:=Aa hq;have HS:=Aa h;have hb0:=h.1;have hbn:¬(b=w.heap.size):=aH;have hbn2:¬(b=w.heap.size+1):=aH;have c2:=h.2.2.2.2;clear hq;obtain⟨sg,bs,nm⟩:=k;simp only at hs hb;have Hn:=Aa (fun W (h:H6 W b p t false)=>Qfo b p t false W h aH);subst hs hb;unfold D9;simp only;clear h;go_enter func87,ntmps87;go_wp2_with fail;refine(Ki _ _ _).mono ?_;rintro e w2 ⟨rfl,hb2⟩;have F2:=Aa ((M0.init (k:=⟨[],[116],nm⟩) HS.o).post hb2);clear hb2 c2;have k0:=Ab F2.o.2.1 0 rfl;have k1:=Ab F2.o.2.1 1 rfl;have k2:=Ab F2.o.2.1 2 rfl;simp only[am]at k0 k1 k2;have s2:=F2.o.1.1.2.2.2.2;go_wp2_with fail;refine(Hn.o _ F2.o.1.1).mono ?_;rintro e w3 ⟨x,r,bad,rfl,hs3,hx,hxl⟩;have F3:=Aa (F2.o.step hb0 hs3);have Hx:=Aa hx;clear hs3 hx k0 k1 k2 s2;go_wp2_with ((with_reducible refine Af (op:=⟨none,.store 68 _ _,_,_,_,none⟩) rfl 68 _ _ rfl (w.heap.size+1) 0 [.int .u8 116,x,.int .i64 0,.slice none 0 0] ?_ ?_ ?_ ?_ ?_ ?_);rfl;rfl;(exact F3.o.2.2.1);kernel_rfl;(simp[Value.oneCell']);intro w9 HS9)
 have HQ:=HQ.o;rw[show Pd t=if bad then none else some (x,r)from Hx.o]at HQ;have Z:=M0.fin (t:=t) (N:=N+1) (v:=.mk 116 x 0 []) (sl:=.slice none 0 0) (r:=q) F3.o hb0 HS9.o (Ea.nil _ _) (by rw[HQ];cases bad<;>rfl)
  (by rw[HQ];cases bad<;>simp) (Fo aJ aH) aH fX
 exact aF (v:=.agg (Gl (.mk 116 x 0 []) (.slice none 0 0)).toArray) (Bh results87 _ _ (w.heap.size+1) _ _ rfl Z.2 underlying68 rfl aN) rfl Z.1
theorem Qje(b N:Nat)(p:Value)(t:List UInt8)(k:Kd)(w:World)(h:H6 w b p t false)(hl:t.length<=900)(hs:k.signs=[])(hb:k.base=[102])(q:Option (Vl × List UInt8))(hq:q=match Qx t with|some (x,r)=>some (.mk 102 (if x then Ev else M5) 0 [],r)|none=>none):
  Calls prog 87 #[b,D9 k] w (M4 w b p t (N+1) q):=by
 have HQ:=Aa hq;have HS:=Aa h;have hb0:=h.1;have hbn:¬(b=w.heap.size):=aH;have hbn2:¬(b=w.heap.size+1):=aH;have c2:=h.2.2.2.2;clear hq;obtain⟨sg,bs,nm⟩:=k;simp only at hs hb;have HFL:=@Aa (Qx t=(match Bi Ev t false with|some r=>some (true,r)|none=>match Bi M5 t false with|some r=>some (false,r)|none=>none)) rfl;have Hy:=Aa (fun W (h:H6 W b p t false)=>Kk b p t Ev false W h aH);have Hw:=Aa (fun W (h:H6 W b p t false)=>Du b p t M5 false W h aH);have Hl1:=Aa (fun r (h:Bi Ev t false=some r)=>(Gw (p:=Ev)).1 h);have Hl2:=Aa (fun r (h:Bi M5 t false=some r)=>(Gw (p:=M5)).1 h);subst hs hb;unfold D9;simp only;clear h;rcases hy:Bi Ev t false with _|r
 ·rw[hy]at Hy HFL;unfold Ev at Hy;unfold M5 at Hw
  have HL:=Aa (show ((Bi M5 t false).getD t).length<=t.length from by
   cases h:Bi M5 t false with
   |none=>exact An _
   |some r=>rw[Hl2.o r h];simp)
  clear hy;go_enter func87,ntmps87;go_wp2_with fail;refine(Ki _ _ _).mono ?_;rintro e w2 ⟨rfl,hb2⟩;have F2:=Aa ((M0.init (k:=⟨[],[102],nm⟩) HS.o).post hb2);clear hb2 c2;have k0:=Ab F2.o.2.1 0 rfl;have k1:=Ab F2.o.2.1 1 rfl;have k2:=Ab F2.o.2.1 2 rfl;simp only[am]at k0 k1 k2;have s2:=F2.o.1.1.2.2.2.2;go_wp2_with fail;refine(Hy.o _ F2.o.1.1).mono ?_;rintro e w3 ⟨rfl,hs3⟩;simp only[Option.getD_none]at hs3;have F3:=Aa (F2.o.step hb0 hs3);clear hs3 k0 k1 k2 s2;go_wp2_with fail;refine(Hw.o _ F3.o.1.1).mono ?_;rintro e w4 ⟨rfl,hs4⟩;have F4:=Aa (F3.o.step hb0 hs4);clear hs4;go_wp2_with ((with_reducible refine Af (op:=⟨none,.store 68 _ _,_,_,_,none⟩) rfl 68 _ _ rfl (w.heap.size+1) 0 [.int .u8 102,.string ⟨#[110,111]⟩,.int .i64 0,.slice none 0 0] ?_ ?_ ?_ ?_ ?_ ?_);rfl;rfl;(exact F4.o.2.2.1);kernel_rfl;(simp[Value.oneCell']);intro w9 HS9)
  have HQ:=HQ.o;rw[HFL.o]at HQ;have hl2:=HL.o;have Z:=M0.fin (t:=t) (N:=N+1) (v:=.mk 102 M5 0 []) (sl:=.slice none 0 0) (r:=q) F4.o hb0 HS9.o (Ea.nil _ _) (by rw[HQ];unfold M5;cases Bi [110,111] t false<;>rfl)
   (by rw[HQ];unfold M5;cases Bi [110,111] t false<;>simp) (Fo aJ aJ) hl2 (by unfold M5 at hl2 ⊢;simp[Az,D3,H4];omega)
  exact aF (v:=.agg (Gl (.mk 102 M5 0 []) (.slice none 0 0)).toArray) (Bh results87 _ _ (w.heap.size+1) _ _ rfl Z.2 underlying68 rfl aN) rfl Z.1
 rw[hy]at Hy HFL;unfold Ev at Hy;have hlr:=Hl1.o r hy;have hlr2:t.length=3+r.length:=by rw[hlr];simp[Ev];omega
 clear hy hlr;go_enter func87,ntmps87;go_wp2_with fail;refine(Ki _ _ _).mono ?_;rintro e w2 ⟨rfl,hb2⟩;have F2:=Aa ((M0.init (k:=⟨[],[102],nm⟩) HS.o).post hb2);clear hb2 c2;have k0:=Ab F2.o.2.1 0 rfl;have k1:=Ab F2.o.2.1 1 rfl;have k2:=Ab F2.o.2.1 2 rfl;simp only[am]at k0 k1 k2;have s2:=F2.o.1.1.2.2.2.2;go_wp2_with fail;refine(Hy.o _ F2.o.1.1).mono ?_;rintro e w3 ⟨rfl,hs3⟩;simp only[Option.getD_some]at hs3;have F3:=Aa (F2.o.step hb0 hs3);clear hs3 k0 k1 k2 s2;go_wp2_with ((with_reducible refine Af (op:=⟨none,.store 68 _ _,_,_,_,none⟩) rfl 68 _ _ rfl (w.heap.size+1) 0 [.int .u8 102,.string ⟨#[121,101,115]⟩,.int .i64 0,.slice none 0 0] ?_ ?_ ?_ ?_ ?_ ?_);rfl;rfl;(exact F3.o.2.2.1);kernel_rfl;(simp[Value.oneCell']);intro w9 HS9)
 have HQ:=HQ.o;rw[HFL.o]at HQ;have Z:=M0.fin (t:=t) (N:=N+1) (v:=.mk 102 Ev 0 []) (sl:=.slice none 0 0) (r:=q) F3.o hb0 HS9.o (Ea.nil _ _) (by rw[HQ];rfl)
  (by rw[HQ];simp) (Fo aJ aJ) aH (by unfold Ev;simp[Az,D3,H4];omega)
 exact aF (v:=.agg (Gl (.mk 102 Ev 0 []) (.slice none 0 0)).toArray) (Bh results87 _ _ (w.heap.size+1) _ _ rfl Z.2 underlying68 rfl aN) rfl Z.1
def IvC(w0:World)(b:Nat)(p:Value)(S:List Ty)(N:Nat)(k:Kd):Prop:=
 ∀(t:List UInt8) (bad:Bool) (w:World),Below w0 w0 w->H6 w b p t bad->t.length<=900->(bad=false->t.length<N) ->
  Calls prog 87 #[b,D9 k] w (M4 w b p t N (if bad then none else Ar S 1000 N k t))
theorem Ea.one{P Q:Nat->Prop}{w:World}{v:Vl}{sl:Value}{T:TypeId}(h:Ea P w sl v.kids)(hQ:∀b,P b->b<w.heap.size->Q b)(hn:Q w.heap.size):
  Ea Q (w.alloc (.cells #[.int .u8 (v.what.toNat:Int),v.text,(v.tag:Int),sl] T)) (.slice (w,0) 1 1) [v]:=by
 have hb:Below w w (w.alloc (.cells #[.int .u8 (v.what.toNat:Int),v.text,(v.tag:Int),sl] T)):=(Ao _ _).alloc (An _) _;refine .mk (w,0) 1 [(v,sl)] rfl rfl aK ⟨rfl,(show 4<=maxLen by decide),fun _=>⟨w.heap.size,0,rfl,by simp,fun j u hj=>?_⟩⟩ (fun g o _ e=>by injection e with e;injection e with e;subst e;exact hn) (fun x hx=>?_)
 ·rw[World.cell?_alloc_new];simpa [Ka]using hj
 rw[aq]at hx;subst hx;exact(h.mono hQ).after hb
theorem Fe(c:UInt8)(t:List UInt8)(bad:Bool):((Bi [c] t bad).getD t).length<=t.length:=gw
theorem Ks{c:UInt8}{t r:List UInt8}{bad:Bool}(h:Bi [c] t bad=some r):r.length+1=t.length:=by
 rw[Cq]at h;cases bad with
 |true=>cases h
 |false=>rw[if_neg aJ,Cu]at h;subst h;rfl
theorem Qfa(w0:World)(b N:Nat)(p:Value)(S:List Ty)(t:List UInt8)(k:Kd)(w:World)(hw:Below w0 w0 w)(hb:w0.heap.size<=b)(h:H6 w b p t false)(hl:t.length<=900)(hN:t.length<=N)(hN2:N<=2000)(sg:List UInt8)(hs:k.signs=63::sg)(hsl:sg.length<=100)
  (H:IvC w0 b p S N k.part) (q:Option (Vl × List UInt8)) (hq:q=Qd4 (Ar S 1000 N k.part) t):
  Calls prog 87 #[b,D9 k] w (M4 w b p t (N+1) q):=by
 have HQ:=Aa hq;have HH:=Aa H;have HP:=Aa (fun W=>Vr k W 63 sg hs aH);have HS:=Aa h;have HW:=Aa hw;have hb0:=h.1;have hbn:¬(b=w.heap.size):=aH;have hbn2:¬(b=w.heap.size+1):=aH;have c2:=h.2.2.2.2;have hm:=Fe 43 t false;have Hlt:=Aa (fun r (h:Bi [43] t false=some r)=>Ks h);have Hlt2:=Aa (fun r (h:Bi [45] t false=some r)=>Ks h);have Htk:=Aa (fun W (h:H6 W b p t false)=>Kk b p t [45] false W h aH);have Hwt:=Aa (fun W (h:H6 W b p t false)=>Du b p t [43] false W h aH)
 have HQ2:=Aa (show Qd4 (Ar S 1000 N k.part) t=(match Bi [45] t false with|some q=>some (.mk 63 [] 0 [],q)|none=>match Bi [43] t false with|none=>none|some r=>match Ar S 1000 N k.part r with|some (v,q)=>some (.mk 63 [] 0 [v],q)|none=>none)from by
  rw[Cq,Cq];rfl)
 generalize Qd4 (Ar S 1000 N k.part) t=q0 at *;have Hkp:=Aa (rfl:D9 k=D9 k);obtain⟨sg',bs,nm⟩:=k;simp only at hs;subst hs;generalize hkp:(⟨63::sg,bs,nm⟩:Kd).part=kp at *;unfold D9 at HP ⊢;simp only at HP ⊢;clear h hq hw H Hkp hkp;rcases hy:Bi [45] t false with _|r
 ·rw[hy]at Htk HQ2;obtain⟨t1,ht1⟩:∃t1,t1=(Bi [43] t false).getD t:=⟨_,rfl⟩
  obtain⟨b1,hb1⟩:∃b1,b1=(Bi [43] t false).isNone:=⟨_,rfl⟩
  have HQ3:=Aa (show q=if b1 then none else match Ar S 1000 N kp t1 with|some (v,q)=>some (.mk 63 [] 0 [v],q)|none=>none from by
   rw[HQ.o,HQ2.o,ht1,hb1];cases Bi [43] t false<;>rfl)
  have HL1:=Aa (show b1=false->t1.length<N from by
   intro h;rw[hb1]at h;cases hr:Bi [43] t false with
   |none=>rw[hr]at h;cases h
   |some r=>have:=Hlt.o r hr;rw[ht1,hr];simp;omega)
  rw[<-ht1]at hm;rw[<-ht1,<-hb1]at Hwt;clear hy ht1 hb1 HQ2 HQ;go_enter func87,ntmps87;go_wp2_with fail;refine(My 63 sg aH _ _ _).mono ?_;rintro e w2 ⟨rfl,hb2⟩;have F2:=Aa ((M0.init (k:=⟨63::sg,bs,nm⟩) HS.o).post hb2);clear hb2 c2;go_wp2_with fail;refine(Htk.o _ F2.o.1.1).mono ?_;rintro e w3 ⟨rfl,hs3⟩;simp only[Option.getD_none]at hs3;have F3:=Aa (F2.o.step hb0 hs3);clear hs3;go_wp2_with fail;refine(Hwt.o _ F3.o.1.1).mono ?_;rintro e w4 ⟨rfl,hs4⟩;have F4:=Aa (F3.o.step hb0 hs4);clear hs4;have k0:=Ab F4.o.2.1 0 rfl;have k1:=Ab F4.o.2.1 1 rfl;have k2:=Ab F4.o.2.1 2 rfl;simp only[am]at k0 k1 k2;go_wp2_with fail;refine(HP.o _).mono ?_;rintro e w5 ⟨rfl,hb5⟩;have F5:=Aa (F4.o.post hb5);clear hb5 k0 k1 k2;go_wp2_with fail;refine(HH.o t1 b1 _ (F5.o.1.env HW.o hb) F5.o.1.1 aH HL1.o).mono ?_;rintro e w6 ⟨v,sl,t',rfl,hk,hs6,hx,hB,hl6,hn6⟩;obtain⟨A7,c7,rfl⟩:=hk.form;have F6:=Aa (F5.o.step hb0 hs6);have hz5:=F5.o.2.2.2;have Hk:=Aa hk;have Hx:=Aa hx;have HB:=Aa hB;clear hs6 hk hx hB;unfold Ec;have F7:=Aa (fun o=>F6.o.post ((Ao _ _).alloc (An _) o));go_wp2_with ((with_reducible refine Af (op:=⟨none,.store 68 _ _,_,_,_,none⟩) rfl 68 _ _ rfl (w.heap.size+1) 0 [.int .u8 63,a6,.int .i64 0,.slice (w6,0) 1 1] ?_ ?_ ?_ ?_ ?_ ?_);rfl;rfl;(exact(Aa (F7.o _)).o.2.2.1);kernel_rfl;(simp[Value.oneCell']);intro w9 HS9)
  have hz6:=F6.o.2.2.2;have Z:=M0.fin (t:=t) (N:=N+1) (v:=.mk 63 [] 0 [v]) (sl:=.slice (w6,0) 1 1) (r:=q) (F7.o _) hb0 HS9.o (Hk.o.one (fun c hc _=>by omega) aH)
   (by rw[HQ3.o];cases b1 with
    |true=>rfl
    |false=>simp only[ao,if_false];cases Ar S 1000 N kp t1 with
     |none=>rfl
     |some y=>rfl)
   (by rw[HQ3.o];cases b1 with
    |true=>simp
    |false=>
     simp only[ao,if_false];have hx2:=Hx.o;simp only[ao,if_false]at hx2;cases hr:Ar S 1000 N kp t1 with
     |none=>simp
     |some y=>obtain⟨e1,e2⟩:=hx2 y hr;rintro x hxx;injection hxx with hxx;subst hxx;exact⟨by rw[e1],e2⟩)
   (.mk aJ eW aK (fun x hx=>by rw[aq]at hx;subst hx;exact HB.o)) aH (by simp[Az,D3,H4,Aw];omega)
  exact aF (v:=.agg (Gl (.mk 63 [] 0 [v]) (.slice (w6,0) 1 1)).toArray) (Bh results87 _ _ (w.heap.size+1) _ _ rfl Z.2 underlying68 rfl aN) rfl Z.1
 rw[hy]at Htk HQ2;have hlt:=Hlt2.o r hy;clear hy;go_enter func87,ntmps87;go_wp2_with fail;refine(My 63 sg aH _ _ _).mono ?_;rintro e w2 ⟨rfl,hb2⟩;have F2:=Aa ((M0.init (k:=⟨63::sg,bs,nm⟩) HS.o).post hb2);clear hb2 c2;go_wp2_with fail;refine(Htk.o _ F2.o.1.1).mono ?_;rintro e w3 ⟨rfl,hs3⟩;simp only[Option.getD_some]at hs3;have F3:=Aa (F2.o.step hb0 hs3);clear hs3;go_wp2_with ((with_reducible refine Af (op:=⟨none,.store 68 _ _,_,_,_,none⟩) rfl 68 _ _ rfl (w.heap.size+1) 0 [.int .u8 63,a6,.int .i64 0,.slice none 0 0] ?_ ?_ ?_ ?_ ?_ ?_);rfl;rfl;(exact F3.o.2.2.1);kernel_rfl;(simp[Value.oneCell']);intro w9 HS9)
 have HQ:=HQ.o;rw[HQ2.o]at HQ;have Z:=M0.fin (t:=t) (N:=N+1) (v:=.mk 63 [] 0 []) (sl:=.slice none 0 0) (r:=q) F3.o hb0 HS9.o (Ea.nil _ _) (by rw[HQ];rfl)
  (by rw[HQ];simp) (Fo aJ aJ) aH fX
 exact aF (v:=.agg (Gl (.mk 63 [] 0 []) (.slice none 0 0)).toArray) (Bh results87 _ _ (w.heap.size+1) _ _ rfl Z.2 underlying68 rfl aN) rfl Z.1
end
theorem Ya:(prog.info? 68).map (fun i=>(i.zero,i.size,i.bytes))=some (some (.agg #[.int .u8 0,a6,.int .i64 0,.slice none 0 0]),4,56):=aN
structure Tq(base B:Nat)(W:World)(h0 h1 h2 u rv:Value)(xs:List (Vl × Value)):Prop where
 lt:B<W.heap.size
 bs:base<=W.heap.size
 hB:B<base
 bk:Qe W B
 c0:W.cell? (B,0)=some h0
 c1:W.cell? (B,1)=some h1
 c2:W.cell? (B,2)=some h2
 c3:W.cell? (B,3)=some u
 row:W.ownsRow base 68 4 rv xs.length (xs.flatMap Ka)
 kids:∀x∈xs,Ea (fun c=>base<=c/\rv.ownBlock≠some c) W x.2 x.1.kids
theorem Tq.after{base B:Nat}{W W':World}{h0 h1 h2 u rv:Value}{xs:List (Vl × Value)}(h:Tq base B W h0 h1 h2 u rv xs)(hb:Below W W W'):Tq base B W' h0 h1 h2 u rv xs:=by
 obtain⟨hc,_,hz⟩:=Cj hb;exact⟨hz _ h.lt,ad h.bs hb.size,h.hB,h.bk.belowAt h.lt hb,(hc _ _ h.lt).trans h.c0,(hc _ _ h.lt).trans h.c1,(hc _ _ h.lt).trans h.c2,(hc _ _ h.lt).trans h.c3,Ct h.row hb,fun x hx=>(h.kids x hx).after hb⟩
theorem Tq.step{base B b:Nat}{W W':World}{h0 h1 h2 u rv:Value}{xs:List (Vl × Value)}(h:Tq base B W h0 h1 h2 u rv xs)(hg:W.grownBy W' (some b))(hb:b<base)(hne:b≠B):Tq base B W' h0 h1 h2 u rv xs:=by
 have hn:some B≠some b:=fun e=>fy
 exact⟨ac h.lt hg.size,ad h.bs hg.size,h.hB,h.bk.grown h.lt hg hn,hg.cell h.c0 hn,hg.cell h.c1 hn,hg.cell h.c2 hn,hg.cell h.c3 hn,
  h.row.kept hg (by
   cases hr:rv.ownBlock with
   |none=>cases rv with
    |slice A a b=>cases A with
     |none=>exact .inl rfl
     |some x=>simp[Value.ownBlock]at hr
    |_=>exact .inl rfl
   |some k=>have:=(h.row.lt k hr).1;exact .inr bW),
  fun x hx=>(h.kids x hx).grown hg fun c hc e=>by injection e with e;omega⟩
theorem Tq.store{base B:Nat}{W:World}{h0 h1 h2 u rv:Value}{xs:List (Vl × Value)}(h:Tq base B W h0 h1 h2 u rv xs):Tq base B (W.setCell ⟨B,3,none⟩ rv) h0 h1 h2 rv rv xs:=by
 have hg:=Am W B 3 rv;have hf:=h.bk.live 3;refine⟨by simpa using h.lt,by simpa using h.bs,h.hB,h.bk.set _,by simp[go_sem,h.c0],by simp[go_sem,h.c1],by simp[go_sem,h.c2],by simp[go_sem,h.c3,hf],h.row.kept hg ?_,fun x hx=>(h.kids x hx).grown hg fun c hc e=>by injection e with e;have:=h.hB;omega⟩;cases hr:rv.ownBlock with
 |none=>cases rv with
  |slice A a b=>cases A with
   |none=>exact .inl rfl
   |some x=>simp[Value.ownBlock]at hr
  |_=>exact .inl rfl
 |some k=>have:=(h.row.lt k hr).1;have:=h.hB;exact .inr bW
theorem Tq.app{base B:Nat}{W W':World}{h0 h1 h2 u rv rv':Value}{xs:List (Vl × Value)}{x:Vl × Value}(h:Tq base B W h0 h1 h2 u rv xs)(hx:Ea (fun c=>base<=c/\rv.ownBlock≠some c) W x.2 x.1.kids)
  (hown:W'.ownsRow base 68 4 rv' (xs.length+1) (xs.flatMap Ka++Ka x)) (hg:W.grownBy W' rv.ownBlock) (hwh:rv'.ownBlock=rv.ownBlock\/∃k,rv'.ownBlock=some k/\W.heap.size<=k):Tq base B W' h0 h1 h2 u rv' (xs++[x]):=by
 have hn:some B≠rv.ownBlock:=fun e=>fO;refine⟨ac h.lt hg.size,ad h.bs hg.size,h.hB,h.bk.grown h.lt hg hn,hg.cell h.c0 hn,hg.cell h.c1 hn,hg.cell h.c2 hn,hg.cell h.c3 hn,by simpa using hown,fun y hy=>?_⟩;have hy':Ea (fun c=>base<=c/\rv.ownBlock≠some c) W y.2 y.1.kids:=by
  rcases af.1 hy with hy|hy
  ·exact h.kids y hy
  rw[aq]at hy;subst hy;exact hx
 refine hy'.kept (fun b o v hb _ hv=>hg.cell hv fun e=>hb.2 e.symm) hg.size fun c hc hl=>⟨hc.1,?_⟩
 rcases hwh with e|⟨k,e,hk⟩
 ·rw[e];exact hc.2
 exact kV
theorem Tq.done{base B:Nat}{W:World}{h0 h1 h2 u rv:Value}{xs:List (Vl × Value)}(h:Tq base B W h0 h1 h2 u rv xs)(hl:xs.length<=1000):Ea (fun c=>base<=c) W rv (Bc xs):=by
 rcases h.row.2 with⟨rfl,h0⟩|⟨g,cap,cur,rfl,hbg,hh,hnc,hcm,hcs,htk⟩
 ·obtain rfl:xs=[]:=List.eq_nil_of_length_eq_zero h0;exact Ea.nil _ _
 refine .mk (g,0) cap xs rfl rfl hl ⟨Xj Qg4 xs,by unfold maxLen;omega,fun hn=>⟨g,0,rfl,(h.row.lt g rfl).2,fun j u hu=>?_⟩⟩ (fun g' o _ e=>by injection e with e;injection e with e;subst e;exact hbg) fun x hx=>(h.kids x hx).mono fun c hc _=>hc.1;have:=h.row.cells (g:=g) rfl j u hu;have e1:(⟨g,0,none⟩:Addr).add j=⟨g,0+j,none⟩:=bD;rwa [e1]at this
theorem Nh{w:World}{base k n m c:Nat}{e:TypeId}{A:Option Addr}{xs:List Value}(h:w.ownsRow base e k (.slice A m c) n xs):m=n:=by
 rcases h.2 with⟨e,h0⟩|⟨g,cap,cur,e,_⟩
 ·injection e with _ e1 e2;omega
 injection e with _ e1 e2
theorem M0.app{w W W':World}{b:Nat}{p:Value}{k:Kd}{t:List UInt8}{bad:Bool}{row:Option Nat}(h:M0 w b p k t bad W)(hb:b<w.heap.size)(hg:W.grownBy W' row)(hr:∀k,row=some k->w.heap.size+2<=k):M0 w b p k t bad W':=by
 have hn:∀c,c<w.heap.size+2->some c≠row:=fun c hc e=>by have:=hr c e.symm;omega
 obtain⟨⟨⟨h0,h1,h2,h3,h4⟩,hg0⟩,k1,k2,k3⟩:=h
 exact⟨⟨⟨ac h0 hg.size,h1.grown h0 hg (hn b aH),hg.cell h2 (hn b aH),hg.cell h3 (hn b aH),hg.cell h4 (hn b aH)⟩,⟨hg.os.trans hg0.os,hg.tape.trans hg0.tape,hg.output.trans hg0.output,ad hg0.size hg.size,fun k hk hne=>(hg.block k (ac hk hg0.size) (hn k aH)).trans (hg0.block k hk hne)⟩⟩,
  C0 k1 hg (hn _ aH),Eu k2 hg k3 (hn _ aH),ac k3 hg.size⟩
theorem M0.put{w W:World}{b B o:Nat}{p:Value}{k:Kd}{t:List UInt8}{bad:Bool}(h:M0 w b p k t bad W)(hb:b<w.heap.size)(hB:w.heap.size+2<=B)(v:Value):M0 w b p k t bad (W.setCell ⟨B,o,none⟩ v):=
 h.app hb (Am W B o v) fun k e=>fy
theorem Ye(x:Vl × Value)(h:x.2.oneCell'=true):∀u∈Ka x,u.oneCell'=true:=by
 intro u hu;simp[Ka]at hu;rcases hu with rfl|rfl|rfl|rfl
 ·rfl
 ·rfl
 ·rfl
 exact h
def Sn(vs:List Vl):Option (List Vl × List UInt8)->Option (List Vl × List UInt8)
 |some (us,z)=>some (vs++us,z)
 |none=>none
def LI(K:List UInt8->Option (Vl × List UInt8))(t1:List UInt8)(b1:Bool)(vs:List Vl)(tt:List UInt8):Prop:=
 (b1=true->vs=[])/\(b1=false->Db K 1000 t1=Sn vs (Db K (1000 - vs.length) tt))/\Dh (vs.map Az)+tt.length<=t1.length/\∀x∈vs,Bd x
def LE(K:List UInt8->Option (Vl × List UInt8))(t1:List UInt8)(b1:Bool)(vs:List Vl)(tt:List UInt8)(bb:Bool)(N:Nat):Prop:=
 (if b1 then none else Db K 1000 t1)=(if bb then none else match Av 93 tt with|some z=>some (vs,z)|none=>none)/\Dh (vs.map Az)+tt.length<=t1.length+8*N+1/\∀x∈vs,Bd x
theorem LI.init(K:List UInt8->Option (Vl × List UInt8))(t1:List UInt8)(b1:Bool):LI K t1 b1 [] t1:=
 ⟨fun _=>rfl,fun _=>by cases h:Db K 1000 t1<;>simp[Sn,h],by simp[Dh],by simp⟩
theorem Nb(a b:List (List UInt8)):Dh (a++b)=Dh a+Dh b:=dJ
theorem LI.len{K:List UInt8->Option (Vl × List UInt8)}{t1 tt:List UInt8}{b1:Bool}{vs:List Vl}(h:LI K t1 b1 vs tt):vs.length+tt.length<=t1.length:=by
 have h1:=Qgz (vs.map Az);have h2:=h.2.2.1;simp at h1;omega
theorem LI.step{K:List UInt8->Option (Vl × List UInt8)}{t1 tt t' t'':List UInt8}{vs:List Vl}{v:Vl}(h:LI K t1 false vs tt)(hK:K tt=some (v,t'))(hg:tt.length=(Az v).length+t'.length)(hc:Av 44 t'=some t'')(hB:Bd v)(hl:t1.length<=900):LI K t1 false (vs++[v]) t'':=by
 have hlen:=h.len;obtain⟨_,h2,h3,h4⟩:=h;have e:t'=44::t'':=Cu.1 hc;refine⟨fun h=>Bool.noConfusion h,fun _=>?_,?_,?_⟩
 ·rw[h2 rfl];obtain⟨m,hm⟩:∃m,1000 - vs.length=m+1:=⟨999 - vs.length,by omega⟩
  rw[hm,show 1000 - (vs++[v]).length=m by simp;omega];conv=>lhs;unfold Db
  rw[hK];simp only[hc];cases Db K m t''<;>simp[Sn]
 ·rw[az,Nb];simp[D7,Dh]at h3 ⊢;rw[e]at hg;simp at hg;omega
 intro x hx;rcases af.1 hx with hx|hx
 ·exact h4 x hx
 rw[aq]at hx;subst hx;exact hB
theorem LI.brk{K:List UInt8->Option (Vl × List UInt8)}{t1 tt t':List UInt8}{vs:List Vl}{v:Vl}{N:Nat}(h:LI K t1 false vs tt)(hx:∀x,K tt=some x->v=x.1/\t'=x.2)(hc:Bi [44] t' (K tt).isNone=none)(hB:Bd v)(hl:t1.length<=900)
  (hn:(Az v).length+t'.length<=tt.length+8*N):LE K t1 false (vs++[v]) t' (K tt).isNone N:=by
 have hlen:=h.len;obtain⟨_,h2,h3,h4⟩:=h;refine⟨?_,?_,?_⟩
 ·rw[if_neg aJ,h2 rfl];obtain⟨m,hm⟩:∃m,1000 - vs.length=m+1:=⟨999 - vs.length,by omega⟩
  rw[hm];unfold Db;cases hk:K tt with
  |none=>rfl
  |some y=>
   obtain⟨e1,e2⟩:=hx y hk;obtain⟨y1,y2⟩:=y;simp only at e1 e2;subst e1 e2;rw[hk,Cq]at hc;simp only[Option.isNone_some,ao,if_false]at hc ⊢;rw[hc];simp only;cases Av 93 t'<;>simp[Sn]
 ·rw[az,Nb];simp[D7,Dh]at h3 ⊢;omega
 intro x hx;rcases af.1 hx with hx|hx
 ·exact h4 x hx
 rw[aq]at hx;subst hx;exact hB
theorem LI.bad{K:List UInt8->Option (Vl × List UInt8)}{t1 tt:List UInt8}{vs:List Vl}{N:Nat}(h:LI K t1 true vs tt):LE K t1 true vs tt true N:=⟨by simp,by have:=h.2.2.1;omega,h.2.2.2⟩
theorem LE.fin{K:List UInt8->Option (Vl × List UInt8)}{t t1 tt:List UInt8}{b1 bb:Bool}{vs:List Vl}{N:Nat}(h:LE K t1 b1 vs tt bb N)(h1:t1=(Bi [91] t false).getD t)(hb1:b1=(Bi [91] t false).isNone)(h2:Bi [93] t1 b1=none):
  Xx K 1000 t=if (Bi [93] tt bb).isNone || decide (20<vs.length)then none else some (.mk 91 [] 0 vs,(Bi [93] tt bb).getD tt):=by
 obtain⟨h3,_,_⟩:=h;rw[Cq]at h1 hb1 h2 ⊢;simp only[ao,if_false]at h1 hb1;unfold Xx;cases hy:Av 91 t with
 |none=>
  rw[hy]at hb1;simp only[Option.isNone_none]at hb1;subst hb1;simp only[if_true]at h3;simp only;cases bb with
  |true=>simp
  |false=>
   simp only[ao,if_false]at h3 ⊢;cases hz:Av 93 tt with
   |none=>simp
   |some z=>rw[hz]at h3;cases h3
 |some r=>
  rw[hy]at h1 hb1;simp only[Option.isNone_some,Option.getD_some]at h1 hb1;subst h1 hb1;simp only[ao,if_false]at h2 h3;simp only;rw[h2];simp only;rw[h3];cases bb with
  |true=>simp
  |false=>
   simp only[ao,if_false];cases Av 93 tt with
   |none=>simp
   |some z=>
    simp only[Option.isNone_some,Bool.false_or,decide_eq_true_eq,Option.getD_some];by_cases h:vs.length<=20
    ·rw[if_pos h,if_neg aH]
    rw[if_neg h,if_pos aH]
end Go.Proofs.YtmmhmlmfhpfgbaaGreatDoor
