/- Texts joined. Conditions: as each theorem names them. -/
import Derived.Maps.AppendAt
import Derived.Test.YtgfmljfjgohdcaaGreatDoorL22
set_option maxRecDepth 100000
set_option maxHeartbeats 32000000
set_option linter.unusedVariables false
set_option linter.unusedSimpArgs false
namespace Go.Proofs.YtgfmljfjgohdcaaGreatDoor
open Go.RowKit Go.Proofs.Tryz
section
attribute [local go_sem] Qls Qkr Qj4 Qig ByteArray.mk_append_mk
theorem Qdf(s:List UInt8)(w:World)(hs:s.length<=400):
  Calls prog 73 #[s] w (Gf (Cf s) w):=by
 have HF:=@Aa (Cf s=(match E8 (s.length+1) s []with|none=>none|some S=>if Fs S/\(∀t∈S,Bs S 9 t=true)then some S else none)) (if_neg aF);have t1:¬(400:Int)<(s.length:Int):=aF;have hmm:=@run_makeMap prog;go_enter func73,ntmps73;go_wp2_with fail;clear hmm;have HM0:=@Aa (Db prog 9 (.pointer none) ((w.alloc (.map #[] 0)).alloc (.cells #[.slice none 0 0,.map (some w.heap.size)] 145)) w 0 (Vn [])) (((Db.made w prog 9 (.pointer none)).alloc _).of_eq (fun l hl=>by cases l<;>rfl))
 have HR0:=Aa (show ((w.alloc (.map #[] 0)).alloc (.cells #[.slice none 0 0,.map (some w.heap.size)] 145)).rangeAt (w.heap.size+1) 0 [.slice none 0 0,.map (some w.heap.size)]from by
  have:=Bo (w.alloc (.map #[] 0)) [.slice none 0 0,.map (some w.heap.size)] 145;simpa using this)
 have HK0:=Aa (show ((w.alloc (.map #[] 0)).alloc (.cells #[.slice none 0 0,.map (some w.heap.size)] 145)).there (w.heap.size+1) 0 2 from by
  have:=B9 (w.alloc (.map #[] 0)) [.slice none 0 0,.map (some w.heap.size)] 145;simpa using this)
 have HB0:=@Aa (Below w w ((w.alloc (.map #[] 0)).alloc (.cells #[.slice none 0 0,.map (some w.heap.size)] 145))) (((Ar _ _).alloc (Am _) _).alloc aH _);have HO0:=Aa (World.ownsRow_nil ((w.alloc (.map #[] 0)).alloc (.cells #[.slice none 0 0,.map (some w.heap.size)] 145)) (w.heap.size+2) 100 1)
 go_loopw [0] (fun l wr=>∃(u:List UInt8) (fuel:Nat) (xs:List PT) (tv:Value),l=u/\u.length<=s.length/\u.length<fuel/\Hid (E8 (s.length+1) s []=E8 fuel u (Ae xs))/\xs.length<=8 /\
   Hid (wr.rangeAt (w.heap.size+1) 0 [tv,.map (some w.heap.size)])/\Hid (wr.there (w.heap.size+1) 0 2)/\Hid (wr.ownsRow (w.heap.size+2) 100 1 tv xs.length (xs.map (·.ptr))) /\
   Hid (N0 wr w.heap.size xs)/\Hid (V0 wr (w.heap.size+2) tv xs)/\Hid (Below w w wr)/\w.heap.size+2<=wr.heap.size) (fun l _=>Qf l)
 case atStart=>exact⟨s,s.length+1,[],.slice none 0 0,rfl,Am _,by omega,rfl,by simp,HR0.o,HK0.o,HO0.o,HM0.o,⟨by simp,List.Pairwise.nil⟩,HB0.o,by simp⟩
 case round=>
  clear HM0 HR0 HK0 HB0 HO0;obtain⟨wo,rfl⟩:∃wo:World,wo=wr:=⟨_,rfl⟩
  obtain⟨u,fuel,xs,tv,rfl,hul,hfu,hlin,hx8,hT,hK,hown,hnm,hty,hbr,hzr⟩:=hrel;obtain⟨A,cA,rfl,hrow⟩:=Cd.own hown.o;have Hrow:=Aa hrow;have s0:wo.cell? (w,1,0)=some (.slice A xs.length cA):=by simpa using Ab hT.o 0 rfl
  have s1:wo.cell? (w,1,1)=some (.map (some w.heap.size)):=by simpa using Ab hT.o 1 rfl
  obtain⟨fuel,rfl⟩:∃f,fuel=f+1:=⟨fuel - 1,by omega⟩
  clear hrow;by_cases hu:u=[]
  ·subst hu;have Hlin:=Aa (show E8 (s.length+1) s []=some (Ae xs)by rw[hlin.o];simp[E8]);have hgood:=Rs.1 Hlin.o;have Htok:=@Aa (∀x∈xs,En x.ty) (fun x hx=>hgood.1.1 x.ty (am (f:=(·.ty)) hx));have HF2:=@Aa (Cf s=if Fs (Ae xs)/\(∀t∈Ae xs,Bs (Ae xs) 9 t=true)then some (Ae xs)else none) (by rw[HF.o,Hlin.o]);have HSC:=@Aa (Rr wo (w,1,0) xs) ⟨w.heap.size+1,A,cA,w.heap.size,rfl,by omega,s0,s1,by have:=Hrow.o;simpa using this,hnm.o,fun x hx=>(hty.o.1 x hx).1,hty.o.2⟩;have Hrow2:=@Aa (Cd wo A xs.length (xs.map (·.ptr))) Hrow.o
   have HSL:=Aa (show Nn w.heap.size wo (w,1,0) xs from⟨w.heap.size+1,A,cA,w.heap.size,rfl,by omega,s0,s1,Hrow2.o,hnm.o,fun x hx=>(hty.o.1 x hx).1,hty.o.2,by omega,Am _,fun g o _ eA=>by
    have:=(hown.o.lt g (by rw[eA];rfl)).1;omega,fun x hx=>⟨by have:=(hty.o.1 x hx).2.1.1;omega,fun k hn hk=>by have:=(hty.o.1 x hx).2.1.2 k hn hk;omega⟩⟩)
   clear hgood hlin hT hK hown hnm hty Hrow HF Hlin;have S0:=Aa s0;go_wp2_with fail;clear s0 s1;go_loopw [84] (fun i wr=>∃k:Nat,i=.int .i64 k/\k<=xs.length/\Hid (∀x∈xs.take k,x.ty.sort≠69->∀f∈x.ty.fields,Bq (Ae xs) f.kind)/\Hid (Below wo wo wr)) (fun i _=>xs.length - (intOf i).toNat)
   case atStart=>exact⟨0,rfl,ae _,by intro x hx;simp at hx,Ar _ _⟩
   case round=>
    obtain⟨wp,rfl⟩:∃wp:World,wp=wr:=⟨_,rfl⟩
    obtain⟨k,rfl,hk,hin,hbp⟩:=hrel;have k1:(0:Int)<=(k:Int):=aF;have hzp:=hbp.o.size;by_cases hkl:k<xs.length
    ·have k2:(k:Int)<(xs.length:Int):=aF;obtain⟨bA,oA,rfl,hbA,cl⟩:=(Hrow2.o.below hbp.o).at_ hkl;rw[List.getElem_map]at cl;have Hts:=Aa (By xs k hkl);have Hmem:=Aa (ac hkl);generalize xs[k]=x at cl Hts Hmem;unfold PT.ptr at cl;have Hxt:=Aa (Htok.o x Hmem.o);obtain⟨hyb,_,y0,y1,y2,y3,A7,c7,hyf,hl8,hrow7⟩:=(HSC.o.tys x Hmem.o).below hbp.o;rw[hyf]at y2;have Hrow7:=Aa hrow7;clear hrow7 hyf y1 y3;go_wp2_with fail;go_loopw [93] (fun i wr=>∃j:Nat,i=.int .i64 j/\j<=x.ty.fields.length/\Hid (x.ty.sort≠69->∀f∈x.ty.fields.take j,Bq (Ae xs) f.kind)/\Hid (Below wp wp wr)) (fun i _=>x.ty.fields.length - (intOf i).toNat)
     case atStart=>exact⟨0,rfl,ae _,by intro _ f hf;simp at hf,Ar _ _⟩
     case round=>
      obtain⟨j,rfl,hj,hin2,hbq⟩:=hrel;have j1:(0:Int)<=(j:Int):=aF;have hzq:=hbq.o.size;have x0:=(hbq.o.cell (p:=⟨x.blk,0,none⟩) hyb).trans y0;have hxw:x.blk<wr.heap.size:=aF;have hxn:¬(x.blk=wr.heap.size):=aF;have Hbw:=@Aa (Below w w wr) ((hbr.o.trans (hbp.o.mono aF)).trans (hbq.o.mono aF));have Hbo2:=@Aa (Below wo wo wr) (hbp.o.trans (hbq.o.mono hzp));by_cases hjl:j<x.ty.fields.length
      ·have j2:(j:Int)<(x.ty.fields.length:Int):=aF;obtain⟨b8,o8,rfl,hb8,hrg⟩:=Qs.range (Hrow7.o.below hbq.o) hjl;have Hts2:=Aa (By x.ty.fields j hjl);have Hfm:=Aa (ac hjl);have Hrg:=@Aa (wr.rangeAt b8 (o8+j*6) [.int .i64 (x.ty.fields[j].tag:Int),.string ⟨x.ty.fields[j].name.toArray⟩,.string ⟨x.ty.fields[j].kind.signs.toArray⟩,.string ⟨x.ty.fields[j].kind.base.toArray⟩,.string ⟨x.ty.fields[j].kind.name.toArray⟩,.string ⟨x.ty.fields[j].given.toArray⟩]) hrg;clear hrg;generalize x.ty.fields[j]=f at Hts2 Hfm Hrg;by_cases h69:x.ty.sort=69
       ·have t69:((x.ty.sort.toNat:Int) != 69)=false:=Kx (d:=69) h69;have Hin2:=@Aa (x.ty.sort≠69->∀f∈x.ty.fields.take (j+1),Bq (Ae xs) f.kind) (fun h=>absurd h69 h);clear h69;go_wp2_with ((with_reducible refine wpList_load_mid (op:=⟨_,.load 107 _,_,_,_,none⟩) rfl 107 _ rfl b8 (o8+j*6) ?_ _ _ Hrg.o underlying107 ?_ ?_ ?_);rfl;rfl;kernel_rfl)
        go_roundw
        case rel=>exact⟨j+1,by go_num,by omega,Hin2.o,hbq.o.alloc hzq _⟩
        case measure=>simp[intOf];omega
       have t69:((x.ty.sort.toNat:Int) != 69)=true:=Nq (d:=69) h69;have Hkd:=Aa ((Hxt.o.2.2.1.1 f Hfm.o).2.2.2.2 h69).1;have Hhas:=Aa (fun W (h:Below wo wo W)=>Qcf _ xs f.kind W (HSC.o.below h).map (aa (H3 Hkd.o) aI));unfold Gy at Hhas;by_cases hrf:Bq (Ae xs) f.kind
       ·have Hin2:=Aa (show x.ty.sort≠69->∀f∈x.ty.fields.take (j+1),Bq (Ae xs) f.kind from fun h g hg=>by
         rw[Hts2.o]at hg;rcases ad.1 hg with hg|hg
         ·exact hin2.o h g hg
         simp at hg;subst hg;exact hrf)
        rw[aB hrf]at Hhas;clear h69 hrf;go_wp2_with ((with_reducible refine wpList_load_mid (op:=⟨_,.load 107 _,_,_,_,none⟩) rfl 107 _ rfl b8 (o8+j*6) ?_ _ _ Hrg.o underlying107 ?_ ?_ ?_);rfl;rfl;kernel_rfl)
        refine(Hhas.o _ (Hbo2.o.alloc aF _)).mono ?_;rintro e w9 ⟨rfl,hb9⟩;have Hb9:=@Aa (Below wp wp w9) ((hbq.o.alloc hzq _).trans (hb9.mono aL));clear hb9;go_wp2_with fail;go_roundw
        case rel=>exact⟨j+1,by go_num,by omega,Hin2.o,Hb9.o⟩
        case measure=>simp[intOf];omega
       have Hend:=Aa (show Cf s=none by
        rw[HF2.o,if_neg];rintro⟨h,_⟩;exact hrf (h x.ty (am (f:=(·.ty)) Hmem.o) h69 f Hfm.o))
       rw[aA hrf]at Hhas;clear h69 hrf;go_wp2_with ((with_reducible refine wpList_load_mid (op:=⟨_,.load 107 _,_,_,_,none⟩) rfl 107 _ rfl b8 (o8+j*6) ?_ _ _ Hrg.o underlying107 ?_ ?_ ?_);rfl;rfl;kernel_rfl)
       refine(Hhas.o _ (Hbo2.o.alloc aF _)).mono ?_;rintro e w9 ⟨rfl,hb9⟩;have Hb9:=@Aa (Below w w w9) ((Hbw.o.alloc Hbw.o.size _).trans (hb9.mono aL));clear hb9;go_wp2_with fail;go_ret2;exact Gf.no Hend.o rfl Hb9.o
      ·have j2:¬(j:Int)<(x.ty.fields.length:Int):=aF
       have Hin3:=Aa (show ∀y∈xs.take (k+1),y.ty.sort≠69->∀f∈y.ty.fields,Bq (Ae xs) f.kind from fun y hy=>by
        rw[Hts.o]at hy;rcases ad.1 hy with hy|hy
        ·exact hin.o y hy
        simp at hy;subst hy;intro h f hf;exact hin2.o h f dg)
       go_wp2_with fail;go_roundw
       case rel=>exact⟨k+1,by go_num,by omega,Hin3.o,Hbo2.o⟩
       case measure=>simp[intOf];omega
    ·have k2:¬(k:Int)<(xs.length:Int):=aF
     have Hkinds:=Aa (show Fs (Ae xs)from fun t ht h f hf=>by
      obtain⟨x,hx,rfl⟩:=av.1 ht;exact hin.o x (by rw[aq aF];exact hx) h f hf)
     have s9:=(hbp.o.cell (p:=⟨w.heap.size+1,0,none⟩) (show w.heap.size+1<wo.heap.size by omega)).trans S0.o;have HSP:=Aa (HSC.o.below hbp.o);have HrowP:=Aa (Hrow2.o.below hbp.o);have HbP:=@Aa (Below w w wp) (hbr.o.trans (hbp.o.mono aF));go_wp2_with fail;clear s9;go_loopw [116] (fun i wr=>∃m:Nat,i=.int .i64 m/\m<=xs.length/\Hid (∀x∈xs.take m,Bs (Ae xs) 9 x.ty=true)/\Hid (Below wp wp wr)) (fun i _=>xs.length - (intOf i).toNat)
     case atStart=>exact⟨0,rfl,ae _,by intro x hx;simp at hx,Ar _ _⟩
     case round=>
      obtain⟨m,rfl,hm,hin4,hbm⟩:=hrel;have m1:(0:Int)<=(m:Int):=aF;have HbM:=@Aa (Below w w wr) (HbP.o.trans (hbm.o.mono HbP.o.size));by_cases hml:m<xs.length
      ·have m2:(m:Int)<(xs.length:Int):=aF;obtain⟨bA,oA,rfl,hbA,cl⟩:=(HrowP.o.below hbm.o).at_ hml;rw[List.getElem_map]at cl;have Hts:=Aa (By xs m hml);have Hmem:=Aa (ac hml);generalize xs[m]=x at cl Hts Hmem;have Hends:=Aa (Qe8 _ xs x wr (HSP.o.below hbm.o).map (HSP.o.below hbm.o).tys Htok.o Hkinds.o Hmem.o);unfold PT.ptr at cl Hends;cases hee:Bs (Ae xs) 9 x.ty with
       |true=>
        rw[hee]at Hends
        have Hin5:=Aa (show ∀y∈xs.take (m+1),Bs (Ae xs) 9 y.ty=true from fun y hy=>by
         rw[Hts.o]at hy;rcases ad.1 hy with hy|hy
         ·exact hin4.o y hy
         simp at hy;subst hy;exact hee)
        clear hee;go_wp2_with fail;refine Hends.o.mono ?_;rintro e w9 ⟨rfl,hb9⟩;have Hb9:=Aa (hbm.o.trans (hb9.mono hbm.o.size));clear hb9;go_wp2_with fail;go_roundw
        case rel=>exact⟨m+1,by go_num,by omega,Hin5.o,Hb9.o⟩
        case measure=>simp[intOf];omega
       |false=>
        rw[hee]at Hends
        have Hend:=Aa (show Cf s=none by
         rw[HF2.o,if_neg];rintro⟨_,h⟩;have:=h x.ty (am (f:=(·.ty)) Hmem.o);rw[hee]at this;cases this)
        clear hee;go_wp2_with fail;refine Hends.o.mono ?_;rintro e w9 ⟨rfl,hb9⟩;have Hb9:=Aa (HbM.o.trans (hb9.mono HbM.o.size));clear hb9;go_wp2_with fail;go_ret2;exact Gf.no Hend.o rfl Hb9.o
      ·have m2:¬(m:Int)<(xs.length:Int):=aF
       have Hfin:=Aa (show Cf s=some (Ae xs)by
        rw[HF2.o,if_pos];refine⟨Hkinds.o,fun t ht=>?_⟩;obtain⟨x,hx,rfl⟩:=av.1 ht;exact hin4.o x (by rw[aq aF];exact hx))
       go_wp2_with fail;go_ret2;exact Gf.yes Hfin.o rfl ((HSL.o.below hbp.o).below hbm.o) HbM.o
  ·have hu1:u.isEmpty=false:=dU;have hu2:(!u.isEmpty)=true:=dU;have hu3:(u == [])=false:=dU;have hu4:(u != [])=true:=dU
   have Hlin:=Aa (show E8 (s.length+1) s []=(if (Cy 10 u).2.2=false\/(Ae xs).length=8 then none else match Eg (Cy 10 u).1 with
    |none=>none
    |some t=>if (Ae xs).any (fun v=>decide (v.name=t.name))=true then none else E8 fuel (Cy 10 u).2.1 (Ae xs++[t]))by rw[hlin.o,E8,if_neg hu];rfl)
   have Hcut:=Aa (fun W=>Q4 u 10 W aF);have hcl:=Ke 10 u;have hsh:(Cy 10 u).2.2=true->(Cy 10 u).2.1.length<u.length:=fun h=>by
    rcases Eu 10 u with⟨_,e⟩|⟨p,t,e1,_,e⟩
    ·rw[e]at h;cases h
    rw[e];show t.length<u.length;rw[e1];simp;omega
   have Hsh:=Aa hsh;generalize Cy 10 u=q at *;obtain⟨ln,rest,told⟩:=q;simp only at hcl Hlin Hsh;have hcl1:=hcl.1;have hcl2:=hcl.2;clear hcl hu hlin hsh;go_wp2_with fail;refine(Hcut.o _).mono ?_;rintro e w1 ⟨rfl,k1,rfl⟩;unfold Qb4;cases told with
   |false=>
    have Hend:=Aa (show Cf s=none by rw[HF.o,Hlin.o];simp);go_wp2_with fail;go_ret2;exact Gf.no Hend.o rfl (below_drewN hbr.o _)
   |true=>
    have hrl:=Hsh.o aH;rcases Nat.eq_or_lt_of_le hx8 with h8|h8
    ·have q1:((xs.length:Int) == 8)=true:=by simp[h8]
     have Hend:=Aa (show Cf s=none by rw[HF.o,Hlin.o];simp[Ae,h8]);clear h8;go_wp2_with fail;go_ret2;exact Gf.no Hend.o rfl (below_drewN hbr.o _)
    have q1:((xs.length:Int) == 8)=false:=bY
    have Hlin2:=Aa (show E8 (s.length+1) s []=(match Eg ln with
     |none=>none
     |some t=>if (Ae xs).any (fun v=>decide (v.name=t.name))=true then none else E8 fuel rest (Ae xs++[t]))by rw[Hlin.o,if_neg (by simp[Ae];omega)])
    have Htype:=Aa (fun W=>Za ln W aF);have Htok:=Aa (fun t (h:Eg ln=some t)=>(Ex.1 h).1);clear Hlin;generalize Eg ln=ot at Hlin2 Htype Htok;go_wp2_with fail;refine(Htype.o _).mono ?_;rintro e w2 ⟨hcase,hb2⟩;have hbo:Below wo wo w2:=(below_drewN (Ar _ _) k1).trans (by simpa using hb2);have Hbo:=Aa hbo;cases ot with
    |none=>
     obtain⟨pp,rfl⟩:=hcase;have Hend:=Aa (show Cf s=none by rw[HF.o,Hlin2.o]);go_wp2_with fail;refine Bb [45,46,47,48,49,50,51,52,53,54,55,56,57,58] aJ aJ aJ (fun u=>by dsimp only[Bp,Bh,List.set,aj,Nat.reduceAdd])
      (fun i v W=>match i with|0=>v=.bool false|1=>v=.bool true|2=>v=.bool true|13=>v=.bool true|_=>True) (fun L U W=>∃q,W=(w2).drewN q) (fun _ _=>True) (fun _ _ _ _ _ h=>h) ⟨1,rfl⟩ ?_ ?_
     ·repeat (first|exact Ap.nil|(refine Ap.cons ?_ ?_;rotate_left))
      all_goals
       rintro L U W hL hpre ⟨q,rfl⟩ hun hdep K hK;clear hun hdep;first|(simp[Region.binds]at hpre;done)|simp[Region.binds]at hpre|clear hpre
       go_simp;first|exact hK _ _ _ rfl Ac ⟨q,rfl⟩ rfl|exact hK _ _ _ rfl Ac ⟨q,rfl⟩ aG|exact hK undef _ _ Ac Ac ⟨q,rfl⟩ aG|exact hK _ _ _ Ac Ac ⟨q,rfl⟩ rfl|exact hK _ _ _ Ac Ac ⟨q,rfl⟩ aG
     rintro L U W hL hφ ⟨q,rfl⟩;have e13:U 13=.bool true:=hφ 13 aI;simp only[e13];clear hφ hL;go_wp2_with fail;go_ret2;exact iJ
    |some t=>
     obtain⟨x,hxt,rfl,hxb,hxty,hxf⟩:=hcase;subst hxt;have hxb2:wo.heap.size<=x.blk:=by simpa using hxb
     have hxz:x.blk<w2.heap.size:=hxty.1;have y1:w2.cell? (x.blk,1)=x.ty.name:=hxty.2.2.2.1;have u0:=(hbo.cell (p:=⟨w.heap.size+1,0,none⟩) (show w.heap.size+1<wo.heap.size by omega)).trans s0;have u1:=(hbo.cell (p:=⟨w.heap.size+1,1,none⟩) (show w.heap.size+1<wo.heap.size by omega)).trans s1;have Hnm2:=Aa (Db.below hnm.o hbo);have Hxty:=Aa hxty;have Hxf:=Aa hxf;have Htk:=Aa (Htok.o x.ty rfl);have hnl:x.ty.name.length<=3:=(Dj.1 Htk.o.2.1).2.1;have hlook:∀q,(Instr.lookup 143 (.map (some w.heap.size)) x.ty.name false).run prog (w2.drewN q)=.ok (Xq (Fc xs x.ty.name)) (w2.drewN q):=fun q=>Gg (Db.below Hnm2.o (below_drewN (Ar _ _) q)) x.ty.name aF;have hz2:wo.heap.size<=w2.heap.size:=hbo.size;clear hbo s0 s1 hxty hxf;unfold PT.ptr;cases hfp:Fc xs x.ty.name with
     |some z=>
      have Hend:=Aa (show Cf s=none by
       rw[HF.o,Hlin2.o];have:(Ae xs).any (fun v=>decide (v.name=x.ty.name))=true:=by
        cases hh:(Ae xs).any (fun v=>decide (v.name=x.ty.name))with
        |true=>rfl
        |false=>rw[Vo.2 hh]at hfp;cases hfp
       simp[this])
      rw[hfp]at hlook;unfold Xq PT.ptr at hlook;clear hfp;go_wp2_with fail;refine Bb [45,46,47,48,49,50,51,52,53,54,55,56,57,58] aJ aJ aJ (fun u=>by dsimp only[Bp,Bh,List.set,aj,Nat.reduceAdd])
       (fun i v W=>match i with|0=>v=.bool true|1=>v=.bool false|2=>v=.bool false|3=>v=(w,1,0)|4=>v=(w,1,0)|5=>v=(w,1,1)|6=>v=.map (some w.heap.size)|7=>v=x.blk|8=>v=x.blk|9=>v=(x.blk,1)|10=>v=x.ty.name|11=>v=z.blk|12=>v=.bool true|13=>v=.bool true|_=>True) (fun L U W=>∃q,W=(w2).drewN q) (fun _ _=>True) (fun _ _ _ _ _ h=>h) ⟨1,rfl⟩ ?_ ?_
      ·exact fW
      rintro L U W hL hφ ⟨q,rfl⟩;have e13:U 13=.bool true:=hφ 13 aI;simp only[e13];clear hφ hL;go_wp2_with fail;go_ret2;exact iJ
     |none=>
      have Hany:=Aa (Vo.1 hfp);have Hfp:=Aa hfp;rw[hfp]at hlook;unfold Xq at hlook;clear hfp
      have Hlin3:=Aa (show E8 (s.length+1) s []=E8 fuel rest (Ae (xs++[x]))by
       rw[Hlin2.o];show (if _ then _ else _)=_;rw[if_neg (by rw[Hany.o];decide)];simp[Ae])
      go_wp2_with fail;refine Bb [45,46,47,48,49,50,51,52,53,54,55,56,57,58] aJ aJ aJ (fun u=>by dsimp only[Bp,Bh,List.set,aj,Nat.reduceAdd])
       (fun i v W=>match i with|0=>v=.bool true|1=>v=.bool false|2=>v=.bool false|3=>v=(w,1,0)|4=>v=(w,1,0)|5=>v=(w,1,1)|6=>v=.map (some w.heap.size)|7=>v=x.blk|8=>v=x.blk|9=>v=(x.blk,1)|10=>v=x.ty.name|11=>v=.pointer none|12=>v=.bool false|13=>v=.bool false|_=>True) (fun L U W=>∃q,W=(w2).drewN q) (fun _ _=>True) (fun _ _ _ _ _ h=>h) ⟨1,rfl⟩ ?_ ?_
      ·exact fW
      rintro L U W hL hφ ⟨q,rfl⟩;have e13:U 13=.bool false:=hφ 13 aI;simp only[e13];clear hφ hL;obtain⟨w3,hw3⟩:∃w3,w3=w2.drewN q:=⟨_,rfl⟩
      rw[<-hw3];have hb3:Below wo wo w3:=by rw[hw3];exact below_drewN Hbo.o _
      have hb23:Below w2 w2 w3:=by rw[hw3];exact below_drewN (Ar _ _) _
      have Hx3:=Aa (Hxty.o.below hb23);have hown3:=Co hown.o hb3;have hT3:=Ah hT.o (show w.heap.size+1<wo.heap.size by omega) hb3;have hK3:=An hK.o (show w.heap.size+1<wo.heap.size by omega) hb3;have hz3:wo.heap.size<=w3.heap.size:=hb3.size;have v0:w3.cell? (w,1,0)=some (.slice A xs.length cA):=by simpa using Ab hT3 0 rfl
      have Hb3:=Aa hb3;have Hown3:=Aa hown3;have HT3:=Aa hT3;have HK3:=Aa hK3;have Hnm3:=Aa (Db.below Hnm2.o hb23);have Hb23:=Aa hb23;clear hlook hb3 hown3 hT3 hK3 hw3 hb23 u0 u1 y1;go_wp2_with (at_builtin;refine Nh _ rfl _ _ 142 rfl (w.heap.size+2) 100 (.pointer none) 8 underlying142 Tryz.infoPt rfl w3 x.blk rfl rfl (.slice A xs.length cA) xs.length (xs.map (·.ptr)) rfl rfl Hown3.o aY aF aF ?_;intro v5 w5 hown5 hg5 hwh;have hb5:Below (w.heap.size+2) w3 w5:=(Ar _ _).grown hg5 aF (fun k hk=>(Hown3.o.lt k hk).1);have HT5:=Aa (Ah HT3.o (show w.heap.size+1<w.heap.size+2 by omega) hb5);have HK5:=Aa (An HK3.o (show w.heap.size+1<w.heap.size+2 by omega) hb5);have Hnm5:=Aa (Db.belowAt Hnm3.o (show w.heap.size<w.heap.size+2 by omega) hb5);have Hty5:=Aa (V0.push hty.o Hb3.o hown.o Hx3.o hxb2 (fun k hk=>(by have:=Hxf.o k hk;simpa using this)) aF hg5 hwh);obtain⟨A5,n5,c5,e5⟩:=Jy hown5;subst e5;have Hown5:=Aa hown5;have Hb5:=Aa hb5;have p0:w5.cell? (w,1,0)=some (.slice A xs.length cA):=(by simpa using Ab HT5.o 0 rfl);have f0:w5.frozen? (w,1,0)=false:=(by simpa using(HK5.o 0 aI).2);have hz5:w3.heap.size<=w5.heap.size:=hg5.size;clear hown5 hg5 hwh hb5 v0)
      obtain⟨w6,hw6⟩:∃w6,w6=w5.setCell ⟨w.heap.size+1,0,none⟩ (.slice A5 n5 c5):=⟨_,rfl⟩
      rw[<-hw6];have hg6:w5.grownBy w6 (some (w.heap.size+1)):=by rw[hw6];exact Pd _ _ _
      have hT6:w6.rangeAt (w.heap.size+1) 0 [.slice A5 n5 c5,.map (some w.heap.size)]:=by rw[hw6];exact Cv [] [.slice A xs.length cA] [.map (some w.heap.size)] [.slice A5 n5 c5] HT5.o rfl
      have hK6:w6.there (w.heap.size+1) 0 2:=by rw[hw6];exact ag HK5.o (w.heap.size+1) 0 [.slice A5 n5 c5]
      have Hown6:=Aa (Hown5.o.kept hg6 (.inr (fun e=>by have:=(Hown5.o.lt _ e).1;omega)));have Hnm6:=Aa (Db.kept Hnm5.o hg6 aH);have Hty6:=Aa (Hty5.o.far hg6 aF);have Hb6:=@Aa (Below w w w6) (((hbr.o.trans (Hb3.o.mono aF)).trans (Hb5.o.mono aF)).trans (by rw[hw6];exact(Ar _ _).setCell aH _));have hz6:w.heap.size+2<=w6.heap.size:=aa aF hg6.size;have m1:w6.cell? (w,1,1)=some (.map (some w.heap.size)):=by simpa using Ab hT6 1 rfl
      have n1:w6.cell? (x.blk,1)=x.ty.name:=(Hty6.o.1 x aH).1.2.2.2.1;have HT6:=Aa hT6;have HK6:=Aa hK6;clear hw6 hg6 hT6 hK6 p0 f0;refine Bb [69,70,71,72,73,74,75,76,77,999] aJ aJ aJ (fun u=>by dsimp only[Bp,Bh,List.set,aj,Nat.reduceAdd])
       (fun i v W=>match i with|0=>v=(w,1,0)|1=>v=(w,1,0)|2=>v=(w,1,1)|3=>v=.map (some w.heap.size)|4=>v=x.blk|5=>v=x.blk|6=>v=(x.blk,1)|7=>v=x.ty.name|8=>v=x.blk|_=>True) (fun L U W=>∃q,(L 9=false->W=w6.drewN q)/\(L 9=true->(w6.drewN q).grownBy W (some w.heap.size)/\N0 W w.heap.size (xs++[x]))) (fun _ _=>True) (fun _ _ _ _ _ h=>h) ⟨1,fun _=>rfl,by simp⟩ ?_ ?_
      ·repeat (first|exact Ap.nil|(refine Ap.cons ?_ ?_;rotate_left))
       all_goals
        rintro L U W hL hpre ⟨q,hq1,hq2⟩ hun hdep K hK;have Hdep:=Aa hdep;have Hq2:=Aa hq2;clear hun hdep hq2;first|(simp[Region.binds]at hpre;done)|simp[Region.binds]at hpre|clear hpre
       ·obtain rfl:=hq1 (Dn Hdep.o 9 3 rfl (Dn Hdep.o 3 2 rfl (Dn Hdep.o 2 1 rfl (Dn Hdep.o 1 0 rfl hL))));exact iK
       ·obtain rfl:=hq1 (Dn Hdep.o 9 3 rfl (Dn Hdep.o 3 2 rfl (Dn Hdep.o 2 1 rfl hL)));exact iK
       ·obtain rfl:=hq1 (Dn Hdep.o 9 3 rfl (Dn Hdep.o 3 2 rfl hL));exact iK
       ·obtain rfl:=hq1 (Dn Hdep.o 9 3 rfl hL);exact iK
       ·obtain rfl:=hq1 (Dn Hdep.o 9 7 rfl (Dn Hdep.o 7 6 rfl (Dn Hdep.o 6 5 rfl (Dn Hdep.o 5 4 rfl hL))));exact iK
       ·obtain rfl:=hq1 (Dn Hdep.o 9 7 rfl (Dn Hdep.o 7 6 rfl (Dn Hdep.o 6 5 rfl hL)));exact iK
       ·obtain rfl:=hq1 (Dn Hdep.o 9 7 rfl (Dn Hdep.o 7 6 rfl hL));exact iK
       ·obtain rfl:=hq1 (Dn Hdep.o 9 7 rfl hL);exact iK
       ·obtain rfl:=hq1 (Dn Hdep.o 9 8 rfl hL);exact iK
       ·obtain rfl:=hq1 hL;obtain⟨w7,hrun,r1,r2⟩:=Db.store (Db.below Hnm6.o (below_drewN (Ar _ _) q)) Tryz.keyStr underlying143 aY x.blk (Qee (n:=x.ty.name) aF);have hn7:N0 w7 w.heap.size (xs++[x]):=by
         unfold N0;rw[af];exact r1.of_eq (fun l hl=>Qbh Hfp.o l hl)
        have R2:=Aa r2;have Hn7:=Aa hn7;clear r1 r2 hn7;go_simp;exact hK undef _ _ Ac Ac ⟨q,fun h=>by simp at h,fun _=>⟨R2.o,Hn7.o⟩⟩ aG
      rintro L U W hL hφ ⟨q,_,hq2⟩;obtain⟨hg7,hn7⟩:=hq2 (hL 9 aI);have hzq:w6.heap.size<=W.heap.size:=by have:=hg7.size;simpa using this
      have hb7:Below w w W:=(below_drewN Hb6.o q).grown hg7 aL (fun k hk=>by injection hk with hk;omega);have HT7:=Aa (Gb (Ah HT6.o (show w.heap.size+1<w6.heap.size by omega) (below_drewN (Ar _ _) q)) hg7 aH);have HK7:=Aa (Gl (An HK6.o (show w.heap.size+1<w6.heap.size by omega) (below_drewN (Ar _ _) q)) hg7 aL aH);have Hown7:=Aa ((Co Hown6.o (below_drewN (Ar _ _) q)).kept hg7 (.inr (fun e=>by have:=(Hown6.o.lt _ e).1;omega)));have Hty7:=Aa ((Hty6.o.below (below_drewN (Ar _ _) q)).far hg7 aF);have Hn7:=Aa hn7;have Hb7:=Aa hb7;clear hL hφ hq2 hg7 hn7 hb7 m1 n1;go_wp2_with fail;go_roundw
      case rel=>exact⟨rest,fuel,xs++[x],.slice A5 n5 c5,rfl,by omega,by omega,Hlin3.o,by simp;omega,HT7.o,HK7.o,by rw[af,ax];exact Hown7.o,Hn7.o,Hty7.o,Hb7.o,by omega⟩
      case measure=>rw[J2,J2];omega
theorem Xf(s:List UInt8)(w:World)(hs:s.length<=4000000):
  Calls prog 73 #[s] w (Gf (Cf s) w):=by
 by_cases h:400<s.length
 ·exact Qam s w hs h
 exact Qdf s w aF
theorem Cz(b:Nat):∀(vs:List Value) (o:Nat) (w:World),w.grownBy (w.setCells b o vs) (some b)
 |[],_,w=>World.grownBy.refl _ _
 |v::r,o,w=>(Pd w ⟨b,o,none⟩ v).trans (Cz b r (o+1) _)
def M9(o:Option (List Ty × Kd))(w:World)(e:Ending)(w':World):Prop:=
 (match o with
  |some x=>∃p xs,Ae xs=x.1/\e=.returned (.tuple #[p,Gy x.2,.bool true])/\Nn w.heap.size w' p xs
  |none=>∃(p:Option Addr) (a b c:ByteArray),e=.returned (.tuple #[.pointer p,.agg #[.string a,.string b,.string c],.bool false]))/\Below w w w'
theorem M9.no{w w':World}{e:Ending}{o:Option (List Ty × Kd)}(ho:o=none){p:Option Addr}{a b c:ByteArray}(he:e=.returned (.tuple #[.pointer p,.agg #[.string a,.string b,.string c],.bool false]))(hb:Below w w w'):M9 o w e w':=by
 rw[ho];exact⟨⟨p,a,b,c,he⟩,hb⟩
theorem Ph(s d:List UInt8)(w:World)(hs:s.length<=4000000)(hd:d.length<=4000000):
  Calls prog 49 #[s,d] w (M9 (Bn s d) w):=by
 have Hrs:=Aa (fun W=>Xf s W hs);have Hrk:=Aa (fun W=>Ra d W hd);have HF:=@Aa (Bn s d=(match Cf s with|none=>none|some S=>match Cm d with|none=>none|some k=>if Bq S k then some (S,k)else none)) rfl;have Hkok:=Aa (fun k (h:Cm d=some k)=>(Ek.1 h).1);generalize Cf s=oS at HF Hrs;generalize Cm d=oK at HF Hrk Hkok;go_enter func49,ntmps49;go_wp2_with fail;refine(Hrs.o _).mono ?_;rintro e w1 ⟨hcase,hb1⟩;have hz1:w.heap.size<w1.heap.size:=cP;have HT1:=@Aa (w1.there w 0 3) (An (B9 w [a6,a6,a6] 67) aH hb1);have Hb1:=@Aa (Below w w w1) (((Ar _ _).alloc (Am _) _).trans (hb1.mono aH));clear hb1;cases oS with
 |none=>
  obtain⟨p,rfl⟩:=hcase;go_wp2_with ((with_reducible refine Ad (op:=⟨none,.store 67 _ _,_,_,_,none⟩) rfl 67 _ _ rfl w 0 [a6,a6,a6] ?_ ?_ ?_ ?_ ?_ ?_);rfl;rfl;(exact HT1.o);kernel_rfl;(simp[Value.oneCell']);intro w9 HS9)
  have HZ:=@Aa (w9.rangeAt w 0 [a6,a6,a6]) (by rw[HS9.o];exact a7 _ _ _ _ HT1.o);refine aD (v:=.tuple #[.pointer none,.agg ([a6,a6,a6]:List Value).toArray,.bool false]) ?_ rfl ?_
  ·exact Fj results49 _ _ w.heap.size [a6,a6,a6] _ _ _ rfl rfl rfl HZ.o underlying67 rfl aJ
  exact M9.no HF.o rfl (by rw[HS9.o];exact Ag _ (Am _) _ _ _ Hb1.o)
 |some S=>
  obtain⟨p,xs,hxs,rfl,hsl⟩:=hcase;subst hxs;have Hsl:=@Aa (Nn (w.heap.size+1) w1 p xs) (by simpa using hsl);obtain⟨pb,_,_,_,hp,_⟩:=hsl;subst hp;go_wp2_with fail;refine(Hrk.o _).mono ?_;rintro e w2 ⟨hcase,hb2⟩;cases oK with
  |none=>
   obtain⟨a1,a2,a3,rfl⟩:=hcase;have hz4:w2.heap.size<(w2.alloc (.cells #[.string a1,.string a2,.string a3] 67)).heap.size:=aH;have hz2:w.heap.size<w2.heap.size:=dK;have HT4:=@Aa ((w2.alloc (.cells #[.string a1,.string a2,.string a3] 67)).there w 0 3) (ap (An HT1.o hz1 hb2) _);have HX4:=@Aa ((w2.alloc (.cells #[.string a1,.string a2,.string a3] 67)).rangeAt w2 0 [.string a1,.string a2,.string a3]) (Bo w2 [.string a1,.string a2,.string a3] _);have Hsl4:=@Aa (Nn (w.heap.size+1) (w2.alloc (.cells #[.string a1,.string a2,.string a3] 67)) pb xs) ((Hsl.o.below hb2).below ((Ar _ _).alloc (Am _) _));have Hb4:=@Aa (Below w w (w2.alloc (.cells #[.string a1,.string a2,.string a3] 67))) ((Hb1.o.trans (hb2.mono Hb1.o.size)).alloc aF _);clear hb2;go_wp2_with fail;refine Bb [23,24,25,26,27,28,29,30,4,999,6] aJ aJ aJ (fun u=>by dsimp only[Bp,Bh,List.set,aj,Nat.reduceAdd])
    (fun i v W=>match i with|0=>v=pb|1=>v=.agg ([.string a1,.string a2,.string a3]:List Value).toArray|2=>v=.bool false|3=>v=.bool false|7=>v=.bool false|8=>v=pb|10=>v=.bool false|_=>True) (fun L U W=>Below w w W/\w2.heap.size<W.heap.size/\W.there w 0 3/\W.rangeAt w2 0 [.string a1,.string a2,.string a3]/\Nn (w.heap.size+1) W pb xs/\(L 9=true->W.rangeAt w 0 [.string a1,.string a2,.string a3])) (fun _ _=>True) (fun _ _ _ _ _ h=>h) ⟨Hb4.o.drew,by simp,by simpa using HT4.o,by simpa using HX4.o,Hsl4.o.below ((Ar _ _).drew),by simp⟩ ?_ ?_
   ·repeat (first|exact Ap.nil|(refine Ap.cons ?_ ?_;rotate_left))
    all_goals
     rintro L U W hL hpre hR hun hdep K hK;have HR:=Aa hR;obtain⟨_,_,_,hxr,_,_⟩:=hR;have c0:W.cell? (w2,0)=some (.string a1):=by simpa using Ab hxr 0 rfl
     have c1:W.cell? (w2,1)=some (.string a2):=by simpa using Ab hxr 1 rfl
     have c2:W.cell? (w2,2)=some (.string a3):=by simpa using Ab hxr 2 rfl
     clear hun hdep hxr;first|(simp[Region.binds]at hpre;done)|simp[Region.binds]at hpre|clear hpre
    iterate 9 exact fI
    ·obtain⟨r1,r2,r3,r4,r5,r6⟩:=HR.o;rw[if_pos d9];refine wp_store_mid 67 _ _ rfl w 0 ([.string a1,.string a2,.string a3]:List Value).toArray rfl hpre.1.2 r3 aJ bJ ?_;exact iL
    ·exact fI
   rintro L U W hL hφ ⟨r1,r2,r3,r4,r5,r6⟩;have e8:U 8=pb:=hφ 8 aI;have e10:U 10=.bool false:=hφ 10 aI;have hr0:=r6 (hL 9 aI);simp only[e8,e10];have R1:=Aa r1;have R5:=Aa r5;have R0:=Aa hr0;clear hL hφ r1 r2 r3 r4 r5 r6 hr0;go_wp2_with fail;refine aD (v:=.tuple #[pb,.agg ([.string a1,.string a2,.string a3]:List Value).toArray,.bool false]) ?_ rfl ?_
   ·exact Fj results49 _ _ w.heap.size [.string a1,.string a2,.string a3] _ _ _ rfl rfl rfl R0.o underlying67 rfl aJ
   exact M9.no HF.o rfl R1.o
  |some k=>
   have hcase':e=.returned (.tuple #[.agg #[k.signs,k.base,k.name],.bool true]):=hcase;subst hcase';clear hcase;have hkn:k.name.length<=100:=aa (H3 (Hkok.o k rfl)) aI;have hz4:w2.heap.size<(w2.alloc (.cells #[k.signs,k.base,k.name] 67)).heap.size:=aH;have hz2:w.heap.size<w2.heap.size:=dK;have HT4:=@Aa ((w2.alloc (.cells #[k.signs,k.base,k.name] 67)).there w 0 3) (ap (An HT1.o hz1 hb2) _);have HX4:=@Aa ((w2.alloc (.cells #[k.signs,k.base,k.name] 67)).rangeAt w2 0 [k.signs,k.base,k.name]) (Bo w2 [k.signs,k.base,k.name] _);have Hsl4:=@Aa (Nn (w.heap.size+1) (w2.alloc (.cells #[k.signs,k.base,k.name] 67)) pb xs) ((Hsl.o.below hb2).below ((Ar _ _).alloc (Am _) _));have Hb4:=@Aa (Below w w (w2.alloc (.cells #[k.signs,k.base,k.name] 67))) ((Hb1.o.trans (hb2.mono Hb1.o.size)).alloc aF _);clear hb2;go_wp2_with fail;have HF3:=@Aa (Bn s d=if Bq (Ae xs) k then some (Ae xs,k)else none) HF.o;refine Bb [23,24,25,26,27,28,29,30,4,999,6] aJ aJ aJ (fun u=>by dsimp only[Bp,Bh,List.set,aj,Nat.reduceAdd])
    (fun i v W=>match i with|0=>v=pb|1=>v=.agg ([k.signs,k.base,k.name]:List Value).toArray|2=>v=.bool true|3=>v=.bool true|4=>v=pb|5=>v=.agg ([k.signs,k.base,k.name]:List Value).toArray|6=>v=.bool (decide (Bq (Ae xs) k))|7=>v=.bool (decide (Bq (Ae xs) k))|8=>v=pb|10=>v=.bool (decide (Bq (Ae xs) k))|_=>True) (fun L U W=>Below w w W/\w2.heap.size<W.heap.size/\W.there w 0 3/\W.rangeAt w2 0 [k.signs,k.base,k.name]/\Nn (w.heap.size+1) W pb xs/\(L 9=true->W.rangeAt w 0 [k.signs,k.base,k.name])) (fun _ _=>True) (fun _ _ _ _ _ h=>h) ⟨Hb4.o.drew,by simp,by simpa using HT4.o,by simpa using HX4.o,Hsl4.o.below ((Ar _ _).drew),by simp⟩ ?_ ?_
   ·repeat (first|exact Ap.nil|(refine Ap.cons ?_ ?_;rotate_left))
    all_goals
     rintro L U W hL hpre hR hun hdep K hK;have HR:=Aa hR;obtain⟨_,_,_,hxr,_,_⟩:=hR;have c0:W.cell? (w2,0)=k.signs:=by simpa using Ab hxr 0 rfl
     have c1:W.cell? (w2,1)=k.base:=by simpa using Ab hxr 1 rfl
     have c2:W.cell? (w2,2)=k.name:=by simpa using Ab hxr 2 rfl
     clear hun hdep hxr;first|(simp[Region.binds]at hpre;done)|simp[Region.binds]at hpre|clear hpre
    iterate 6 exact fI
    ·go_simp;obtain⟨r1,r2,r3,r4,r5,r6⟩:=HR.o;refine(Qcf _ xs k W r5.isc.map hkn).mono ?_;rintro e w5 ⟨rfl,hb5⟩;exact hK (.bool (decide (Bq (Ae xs) k))) _ _ rfl Ac ⟨r1.trans (hb5.mono r1.size),a8 r2 hb5.size,An r3 (show w.heap.size<W.heap.size by omega) hb5,Ah r4 r2 hb5,r5.below hb5,fun h=>Ah (r6 h) (show w.heap.size<W.heap.size by omega) hb5⟩ aG
    ·exact fI
    ·exact fI
    ·obtain⟨r1,r2,r3,r4,r5,r6⟩:=HR.o;rw[if_pos d9];refine wp_store_mid 67 _ _ rfl w 0 ([k.signs,k.base,k.name]:List Value).toArray rfl hpre.1.2 r3 aJ bJ ?_;exact iL
    ·exact fI
   rintro L U W hL hφ ⟨r1,r2,r3,r4,r5,r6⟩;have e8:U 8=pb:=hφ 8 aI;have e10:U 10=.bool (decide (Bq (Ae xs) k)):=hφ 10 aI;have hr0:=r6 (hL 9 aI);simp only[e8,e10];have R1:=Aa r1;have R5:=Aa r5;have R0:=Aa hr0;clear hL hφ r1 r2 r3 r4 r5 r6 hr0;go_wp2_with fail;refine aD (v:=.tuple #[pb,.agg ([k.signs,k.base,k.name]:List Value).toArray,.bool (decide (Bq (Ae xs) k))]) ?_ rfl ?_
   ·exact Fj results49 _ _ w.heap.size [k.signs,k.base,k.name] _ _ _ rfl rfl rfl R0.o underlying67 rfl aJ
   by_cases hr:Bq (Ae xs) k
   ·rw[aB hr];unfold M9;rw[HF3.o,if_pos hr]
    exact⟨⟨_,xs,rfl,rfl,by
     obtain⟨b,A,c,mb,q0,q1,q2,q3,q4,q5,q6,q7,l1,l2,l3,l4⟩:=R5.o;exact⟨b,A,c,mb,q0,q1,q2,q3,q4,q5,q6,q7,by omega,by omega,fun g o h1 h2=>by have:=l3 g o h1 h2;omega,fun x hx=>⟨by have:=(l4 x hx).1;omega,fun k h1 h2=>by have:=(l4 x hx).2 k h1 h2;omega⟩⟩⟩,R1.o⟩
   rw[aA hr];exact M9.no (HF3.o.trans (if_neg hr)) rfl R1.o
def G8(B:Nat)(w:World)(v:Value):Option Fd->Prop
 |none=>v=.pointer none
 |some f=>∃b o,v=.pointer (some ⟨b,o,none⟩)/\b<B/\w.rangeAt b o (Sc f)
theorem G8.below{B:Nat}{w w':World}{v:Value}{o:Option Fd}(h:G8 B w v o)(hb:Below B w w'):G8 B w' v o:=by
 cases o with
 |none=>exact h
 |some f=>obtain⟨b,o,e,h1,h2⟩:=h;exact⟨b,o,e,h1,Ah h2 h1 hb⟩
def Qip(B:Nat)(o:Option Fd)(w:World)(e:Ending)(w':World):Prop:=∃v,e=.returned v/\G8 B w v o/\w=w'
theorem P9(w0:World)(x:PT)(hx:Td w0 x)(n:Nat)(w:World)(hb:Below w0 w0 w)(hn:n<=1000000000):
  Calls prog 69 #[x.blk,.int .i64 n] w (Qip w0.heap.size (Bl x.ty.fields n) w):=by
 obtain⟨z0,_,_,_,z3,_,A,c,hfv,hl,hr⟩:=hx;rw[hfv]at z3;have c2:w.cell? (x.blk,2)=some (.slice A x.ty.fields.length c):=(hb.cell (p:=⟨x.blk,2,none⟩) z0).trans z3;have Hr:=Aa hr;have Hb:=Aa hb;clear hr hfv z3 hb;go_enter func69,ntmps69;go_wp2_with fail;go_loop [11] (fun i=>∃k:Nat,i=.int .i64 k/\k<=x.ty.fields.length/\Hid (∀f∈x.ty.fields.take k,decide (f.tag=n)=false)) (fun i=>x.ty.fields.length - (intOf i).toNat)
 case atStart=>exact⟨0,rfl,ae _,by intro f hf;simp at hf⟩
 case round=>
  obtain⟨k,rfl,hk,hin⟩:=hrel;by_cases hlt:k<x.ty.fields.length
  ·obtain⟨b,off,rfl,hbl,hrg⟩:=Qs.range Hr.o hlt;have hrw:=Ah hrg hbl Hb.o;have Hts:=Aa (By x.ty.fields k hlt);have Hft:=Aa (Sa (p:=fun f=>decide (f.tag=n)) hlt hin.o);generalize x.ty.fields[k]=f at hrg hrw Hts Hft;have c0:w.cell? ⟨b,off+k*6,none⟩=(f.tag:Int):=by simpa using Ab hrw 0 rfl
   have Hrw:=Aa hrw;clear hrw hrg;have k1:(0:Int)<=(k:Int):=aF;have k2:(k:Int)<(x.ty.fields.length:Int):=aF;by_cases he:f.tag=n
   ·have t1:((f.tag:Int) == (n:Int))=true:=by simp[he]
    have Hfin:=Aa (show Bl x.ty.fields n=some f by unfold Bl;rw[Hft.o,if_pos cI]);clear he;go_wp2_with fail;go_ret;exact⟨_,rfl,by rw[Hfin.o];exact⟨b,off+k*6,rfl,hbl,Hrw.o⟩,rfl⟩
   have t1:((f.tag:Int) == (n:Int))=false:=bY
   have Hin:=Aa (show ∀g∈x.ty.fields.take (k+1),decide (g.tag=n)=false by
    intro g hg;rw[Hts.o]at hg;rcases ad.1 hg with hg|hg
    ·exact hin.o g hg
    simp at hg;subst hg;simpa using he)
   clear he;go_wp2_with fail;go_round
   case rel=>exact⟨k+1,by go_num,by omega,Hin.o⟩
   case measure=>simp[intOf];omega
  ·have Hfin:=@Aa (Bl x.ty.fields n=none) (Me (fun f hf=>hin.o f dg));go_wp2_with fail;go_ret;exact⟨_,rfl,by rw[Hfin.o];rfl,rfl⟩
theorem Z9(p:Value)(c:UInt8)(t:List UInt8)(b nm:ByteArray)(w:World)(hc:c=91\/c=63)(hl:t.length<=1000):
  Calls prog 133 #[p,.agg #[.string ⟨(c::t).toArray⟩,.string b,.string nm]] w (Gu (Qd9 c) w):=by
 rcases hc with rfl|rfl
 ·go_enter func133,ntmps133;go_wp2_with fail;refine(J9 91 t hl _ _ _).mono ?_;rintro e w1 ⟨rfl,hb1⟩;go_wp2_with fail;exact iM
 go_enter func133,ntmps133;go_wp2_with fail;refine(J9 63 t hl _ _ _).mono ?_;rintro e w1 ⟨rfl,hb1⟩;go_wp2_with fail;exact iM
theorem Ve(p:Value)(b:List UInt8)(nm:ByteArray)(w:World)(hb:b=[110]\/b=[116]\/b=[102]):
  Calls prog 133 #[p,.agg #[a6,b,.string nm]] w (Gu (Vu b) w):=by
 rcases hb with rfl|rfl|rfl<;>
 ·go_enter func133,ntmps133;go_wp2_with fail;refine(Jg _ _ _).mono ?_;rintro e w1 ⟨rfl,hb1⟩;obtain⟨hc1,_,_⟩:=Bx hb1;have y1:=hc1 w 1 aH;simp at y1;clear hc1;have Hb1:=Aa (((Ar w.heap.size w).alloc (Am _) _).trans (hb1.mono aH));clear hb1;go_wp2_with fail;exact iF
end
end Go.Proofs.YtgfmljfjgohdcaaGreatDoor
