/- Texts joined. Conditions: as each theorem names them. -/
import Derived.Maps.AppendAt
import Derived.Defers
import Derived.Test.YtmmhmlmfhpfgbaaGreatDoorB08
import Derived.Test.YtmmhmlmfhpfgbaaGreatDoorB16
set_option maxRecDepth 100000
set_option maxHeartbeats 32000000
set_option linter.unusedVariables false
set_option linter.unusedSimpArgs false
namespace Go.Proofs.YtmmhmlmfhpfgbaaGreatDoor
open Go.RowKit Go.Proofs.Tryz
section
attribute [local go_sem] Qra Qpu Qo3 Qmi ByteArray.mk_append_mk
theorem Qf8(s:List UInt8)(w:World)(hs:s.length<=400):
  Calls prog 61 #[s] w (Jb (Ck s) w):=by
 have HF:=@Aa (Ck s=(match Gi (s.length+1) s []with|none=>none|some S=>if G1 S/\(∀t∈S,By S 9 t=true)then some S else none)) (if_neg aI);have t1:¬(400:Int)<(s.length:Int):=aI;have hmm:=@run_makeMap prog;go_enter func61,ntmps61;go_wp2_with fail;clear hmm;have HM0:=@Aa (D5 prog 9 (.pointer none) ((w.alloc (.map #[] 0)).alloc (.cells #[.slice none 0 0,.map (some w.heap.size)] 135)) w 0 (Qap [])) (((D5.made w prog 9 (.pointer none)).alloc _).of_eq (fun l hl=>by cases l<;>rfl))
 have HR0:=Aa (show ((w.alloc (.map #[] 0)).alloc (.cells #[.slice none 0 0,.map (some w.heap.size)] 135)).rangeAt (w.heap.size+1) 0 [.slice none 0 0,.map (some w.heap.size)]from by
  have:=Br (w.alloc (.map #[] 0)) [.slice none 0 0,.map (some w.heap.size)] 135;simpa using this)
 have HK0:=Aa (show ((w.alloc (.map #[] 0)).alloc (.cells #[.slice none 0 0,.map (some w.heap.size)] 135)).there (w.heap.size+1) 0 2 from by
  have:=Cu (w.alloc (.map #[] 0)) [.slice none 0 0,.map (some w.heap.size)] 135;simpa using this)
 have HB0:=@Aa (Below w w ((w.alloc (.map #[] 0)).alloc (.cells #[.slice none 0 0,.map (some w.heap.size)] 135))) (((Aq _ _).alloc (Al _) _).alloc aK _);have HO0:=Aa (World.ownsRow_nil ((w.alloc (.map #[] 0)).alloc (.cells #[.slice none 0 0,.map (some w.heap.size)] 135)) (w.heap.size+2) 90 1)
 go_loopw [0] (fun l wr=>∃(u:List UInt8) (fuel:Nat) (xs:List PT) (tv:Value),l=u/\u.length<=s.length/\u.length<fuel/\Hid (Gi (s.length+1) s []=Gi fuel u (Ah xs))/\xs.length<=8 /\
   Hid (wr.rangeAt (w.heap.size+1) 0 [tv,.map (some w.heap.size)])/\Hid (wr.there (w.heap.size+1) 0 2)/\Hid (wr.ownsRow (w.heap.size+2) 90 1 tv xs.length (xs.map (·.ptr))) /\
   Hid (Pv wr w.heap.size xs)/\Hid (Zf wr (w.heap.size+2) tv xs)/\Hid (Below w w wr)/\w.heap.size+2<=wr.heap.size) (fun l _=>Mo l)
 case atStart=>exact⟨s,s.length+1,[],.slice none 0 0,rfl,Al _,by omega,rfl,by simp,HR0.o,HK0.o,HO0.o,HM0.o,⟨by simp,List.Pairwise.nil⟩,HB0.o,by simp⟩
 case round=>
  clear HM0 HR0 HK0 HB0 HO0;obtain⟨wo,rfl⟩:∃wo:World,wo=wr:=⟨_,rfl⟩
  obtain⟨u,fuel,xs,tv,rfl,hul,hfu,hlin,hx8,hT,hK,hown,hnm,hty,hbr,hzr⟩:=hrel;obtain⟨A,cA,rfl,hrow⟩:=Ca.own hown.o;have Hrow:=Aa hrow;have s0:wo.cell? (w,1,0)=some (.slice A xs.length cA):=by simpa using Ab hT.o 0 rfl
  have s1:wo.cell? (w,1,1)=some (.map (some w.heap.size)):=by simpa using Ab hT.o 1 rfl
  obtain⟨fuel,rfl⟩:∃f,fuel=f+1:=⟨fuel - 1,by omega⟩
  clear hrow;by_cases hu:u=[]
  ·subst hu;have Hlin:=Aa (show Gi (s.length+1) s []=some (Ah xs)by rw[hlin.o];simp[Gi]);have hgood:=Tv.1 Hlin.o;have Htok:=@Aa (∀x∈xs,Ek x.ty) (fun x hx=>hgood.1.1 x.ty (aq (f:=(·.ty)) hx));have HF2:=@Aa (Ck s=if G1 (Ah xs)/\(∀t∈Ah xs,By (Ah xs) 9 t=true)then some (Ah xs)else none) (by rw[HF.o,Hlin.o]);have HSC:=@Aa (To wo (w,1,0) xs) ⟨w.heap.size+1,A,cA,w.heap.size,rfl,by omega,s0,s1,by have:=Hrow.o;simpa using this,hnm.o,fun x hx=>(hty.o.1 x hx).1,hty.o.2⟩;have Hrow2:=@Aa (Ca wo A xs.length (xs.map (·.ptr))) Hrow.o
   have HSL:=Aa (show Rx w.heap.size wo (w,1,0) xs from⟨w.heap.size+1,A,cA,w.heap.size,rfl,by omega,s0,s1,Hrow2.o,hnm.o,fun x hx=>(hty.o.1 x hx).1,hty.o.2,by omega,Al _,fun g o _ eA=>by
    have:=(hown.o.lt g (by rw[eA];rfl)).1;omega,fun x hx=>⟨by have:=(hty.o.1 x hx).2.1.1;omega,fun k hn hk=>by have:=(hty.o.1 x hx).2.1.2 k hn hk;omega⟩⟩)
   clear hgood hlin hT hK hown hnm hty Hrow HF Hlin;have S0:=Aa s0;go_wp2_with fail;clear s0 s1;go_loopw [84] (fun i wr=>∃k:Nat,i=.int .i64 k/\k<=xs.length/\Hid (∀x∈xs.take k,x.ty.sort≠69->∀f∈x.ty.fields,Bu (Ah xs) f.kind)/\Hid (Below wo wo wr)) (fun i _=>xs.length - (intOf i).toNat)
   case atStart=>exact⟨0,rfl,ag _,by intro x hx;simp at hx,Aq _ _⟩
   case round=>
    obtain⟨wp,rfl⟩:∃wp:World,wp=wr:=⟨_,rfl⟩
    obtain⟨k,rfl,hk,hin,hbp⟩:=hrel;have k1:(0:Int)<=(k:Int):=aI;have hzp:=hbp.o.size;by_cases hkl:k<xs.length
    ·have k2:(k:Int)<(xs.length:Int):=aI;obtain⟨bA,oA,rfl,hbA,cl⟩:=(Hrow2.o.below hbp.o).at_ hkl;rw[List.getElem_map]at cl;have Hts:=Aa (Cv xs k hkl);have Hmem:=Aa (ae hkl);generalize xs[k]=x at cl Hts Hmem;unfold PT.ptr at cl;have Hxt:=Aa (Htok.o x Hmem.o);obtain⟨hyb,_,y0,y1,y2,y3,A7,c7,hyf,hl8,hrow7⟩:=(HSC.o.tys x Hmem.o).below hbp.o;rw[hyf]at y2;have Hrow7:=Aa hrow7;clear hrow7 hyf y1 y3;go_wp2_with fail;go_loopw [93] (fun i wr=>∃j:Nat,i=.int .i64 j/\j<=x.ty.fields.length/\Hid (x.ty.sort≠69->∀f∈x.ty.fields.take j,Bu (Ah xs) f.kind)/\Hid (Below wp wp wr)) (fun i _=>x.ty.fields.length - (intOf i).toNat)
     case atStart=>exact⟨0,rfl,ag _,by intro _ f hf;simp at hf,Aq _ _⟩
     case round=>
      obtain⟨j,rfl,hj,hin2,hbq⟩:=hrel;have j1:(0:Int)<=(j:Int):=aI;have hzq:=hbq.o.size;have x0:=(hbq.o.cell (p:=⟨x.blk,0,none⟩) hyb).trans y0;have hxw:x.blk<wr.heap.size:=aI;have hxn:¬(x.blk=wr.heap.size):=aI;have Hbw:=@Aa (Below w w wr) ((hbr.o.trans (hbp.o.mono aI)).trans (hbq.o.mono aI));have Hbo2:=@Aa (Below wo wo wr) (hbp.o.trans (hbq.o.mono hzp));by_cases hjl:j<x.ty.fields.length
      ·have j2:(j:Int)<(x.ty.fields.length:Int):=aI;obtain⟨b8,o8,rfl,hb8,hrg⟩:=Qag.range (Hrow7.o.below hbq.o) hjl;have Hts2:=Aa (Cv x.ty.fields j hjl);have Hfm:=Aa (ae hjl);have Hrg:=@Aa (wr.rangeAt b8 (o8+j*6) [.int .i64 (x.ty.fields[j].tag:Int),.string ⟨x.ty.fields[j].name.toArray⟩,.string ⟨x.ty.fields[j].kind.signs.toArray⟩,.string ⟨x.ty.fields[j].kind.base.toArray⟩,.string ⟨x.ty.fields[j].kind.name.toArray⟩,.string ⟨x.ty.fields[j].given.toArray⟩]) hrg;clear hrg;generalize x.ty.fields[j]=f at Hts2 Hfm Hrg;by_cases h69:x.ty.sort=69
       ·have t69:((x.ty.sort.toNat:Int) != 69)=false:=My (d:=69) h69;have Hin2:=@Aa (x.ty.sort≠69->∀f∈x.ty.fields.take (j+1),Bu (Ah xs) f.kind) (fun h=>absurd h69 h);clear h69;go_wp2_with ((with_reducible refine wpList_load_mid (op:=⟨_,.load 97 _,_,_,_,none⟩) rfl 97 _ rfl b8 (o8+j*6) ?_ _ _ Hrg.o underlying97 ?_ ?_ ?_);rfl;rfl;kernel_rfl)
        go_roundw
        case rel=>exact⟨j+1,by go_num,by omega,Hin2.o,hbq.o.alloc hzq _⟩
        case measure=>simp[intOf];omega
       have t69:((x.ty.sort.toNat:Int) != 69)=true:=Qm (d:=69) h69;have Hkd:=Aa ((Hxt.o.2.2.1.1 f Hfm.o).2.2.2.2 h69).1;have Hhas:=Aa (fun W (h:Below wo wo W)=>Qe1 _ xs f.kind W (HSC.o.below h).map (ad (Pi Hkd.o) aL));unfold Fi at Hhas;by_cases hrf:Bu (Ah xs) f.kind
       ·have Hin2:=Aa (show x.ty.sort≠69->∀f∈x.ty.fields.take (j+1),Bu (Ah xs) f.kind from fun h g hg=>by
         rw[Hts2.o]at hg;rcases af.1 hg with hg|hg
         ·exact hin2.o h g hg
         simp at hg;subst hg;exact hrf)
        rw[aE hrf]at Hhas;clear h69 hrf;go_wp2_with ((with_reducible refine wpList_load_mid (op:=⟨_,.load 97 _,_,_,_,none⟩) rfl 97 _ rfl b8 (o8+j*6) ?_ _ _ Hrg.o underlying97 ?_ ?_ ?_);rfl;rfl;kernel_rfl)
        refine(Hhas.o _ (Hbo2.o.alloc aI _)).mono ?_;rintro e w9 ⟨rfl,hb9⟩;have Hb9:=@Aa (Below wp wp w9) ((hbq.o.alloc hzq _).trans (hb9.mono aO));clear hb9;go_wp2_with fail;go_roundw
        case rel=>exact⟨j+1,by go_num,by omega,Hin2.o,Hb9.o⟩
        case measure=>simp[intOf];omega
       have Hend:=Aa (show Ck s=none by
        rw[HF2.o,if_neg];rintro⟨h,_⟩;exact hrf (h x.ty (aq (f:=(·.ty)) Hmem.o) h69 f Hfm.o))
       rw[aD hrf]at Hhas;clear h69 hrf;go_wp2_with ((with_reducible refine wpList_load_mid (op:=⟨_,.load 97 _,_,_,_,none⟩) rfl 97 _ rfl b8 (o8+j*6) ?_ _ _ Hrg.o underlying97 ?_ ?_ ?_);rfl;rfl;kernel_rfl)
       refine(Hhas.o _ (Hbo2.o.alloc aI _)).mono ?_;rintro e w9 ⟨rfl,hb9⟩;have Hb9:=@Aa (Below w w w9) ((Hbw.o.alloc Hbw.o.size _).trans (hb9.mono aO));clear hb9;go_wp2_with fail;go_ret2;exact Jb.no Hend.o rfl Hb9.o
      ·have j2:¬(j:Int)<(x.ty.fields.length:Int):=aI
       have Hin3:=Aa (show ∀y∈xs.take (k+1),y.ty.sort≠69->∀f∈y.ty.fields,Bu (Ah xs) f.kind from fun y hy=>by
        rw[Hts.o]at hy;rcases af.1 hy with hy|hy
        ·exact hin.o y hy
        simp at hy;subst hy;intro h f hf;exact hin2.o h f du)
       go_wp2_with fail;go_roundw
       case rel=>exact⟨k+1,by go_num,by omega,Hin3.o,Hbo2.o⟩
       case measure=>simp[intOf];omega
    ·have k2:¬(k:Int)<(xs.length:Int):=aI
     have Hkinds:=Aa (show G1 (Ah xs)from fun t ht h f hf=>by
      obtain⟨x,hx,rfl⟩:=ay.1 ht;exact hin.o x (by rw[av aI];exact hx) h f hf)
     have s9:=(hbp.o.cell (p:=⟨w.heap.size+1,0,none⟩) (show w.heap.size+1<wo.heap.size by omega)).trans S0.o;have HSP:=Aa (HSC.o.below hbp.o);have HrowP:=Aa (Hrow2.o.below hbp.o);have HbP:=@Aa (Below w w wp) (hbr.o.trans (hbp.o.mono aI));go_wp2_with fail;clear s9;go_loopw [116] (fun i wr=>∃m:Nat,i=.int .i64 m/\m<=xs.length/\Hid (∀x∈xs.take m,By (Ah xs) 9 x.ty=true)/\Hid (Below wp wp wr)) (fun i _=>xs.length - (intOf i).toNat)
     case atStart=>exact⟨0,rfl,ag _,by intro x hx;simp at hx,Aq _ _⟩
     case round=>
      obtain⟨m,rfl,hm,hin4,hbm⟩:=hrel;have m1:(0:Int)<=(m:Int):=aI;have HbM:=@Aa (Below w w wr) (HbP.o.trans (hbm.o.mono HbP.o.size));by_cases hml:m<xs.length
      ·have m2:(m:Int)<(xs.length:Int):=aI;obtain⟨bA,oA,rfl,hbA,cl⟩:=(HrowP.o.below hbm.o).at_ hml;rw[List.getElem_map]at cl;have Hts:=Aa (Cv xs m hml);have Hmem:=Aa (ae hml);generalize xs[m]=x at cl Hts Hmem;have Hends:=Aa (Qi7 _ xs x wr (HSP.o.below hbm.o).map (HSP.o.below hbm.o).tys Htok.o Hkinds.o Hmem.o);unfold PT.ptr at cl Hends;cases hee:By (Ah xs) 9 x.ty with
       |true=>
        rw[hee]at Hends
        have Hin5:=Aa (show ∀y∈xs.take (m+1),By (Ah xs) 9 y.ty=true from fun y hy=>by
         rw[Hts.o]at hy;rcases af.1 hy with hy|hy
         ·exact hin4.o y hy
         simp at hy;subst hy;exact hee)
        clear hee;go_wp2_with fail;refine Hends.o.mono ?_;rintro e w9 ⟨rfl,hb9⟩;have Hb9:=Aa (hbm.o.trans (hb9.mono hbm.o.size));clear hb9;go_wp2_with fail;go_roundw
        case rel=>exact⟨m+1,by go_num,by omega,Hin5.o,Hb9.o⟩
        case measure=>simp[intOf];omega
       |false=>
        rw[hee]at Hends
        have Hend:=Aa (show Ck s=none by
         rw[HF2.o,if_neg];rintro⟨_,h⟩;have:=h x.ty (aq (f:=(·.ty)) Hmem.o);rw[hee]at this;cases this)
        clear hee;go_wp2_with fail;refine Hends.o.mono ?_;rintro e w9 ⟨rfl,hb9⟩;have Hb9:=Aa (HbM.o.trans (hb9.mono HbM.o.size));clear hb9;go_wp2_with fail;go_ret2;exact Jb.no Hend.o rfl Hb9.o
      ·have m2:¬(m:Int)<(xs.length:Int):=aI
       have Hfin:=Aa (show Ck s=some (Ah xs)by
        rw[HF2.o,if_pos];refine⟨Hkinds.o,fun t ht=>?_⟩;obtain⟨x,hx,rfl⟩:=ay.1 ht;exact hin4.o x (by rw[av aI];exact hx))
       go_wp2_with fail;go_ret2;exact Jb.yes Hfin.o rfl ((HSL.o.below hbp.o).below hbm.o) HbM.o
  ·have hu1:u.isEmpty=false:=dY;have hu2:(!u.isEmpty)=true:=dY;have hu3:(u == [])=false:=dY;have hu4:(u != [])=true:=dY
   have Hlin:=Aa (show Gi (s.length+1) s []=(if (Dj 10 u).2.2=false\/(Ah xs).length=8 then none else match Fe (Dj 10 u).1 with
    |none=>none
    |some t=>if (Ah xs).any (fun v=>decide (v.name=t.name))=true then none else Gi fuel (Dj 10 u).2.1 (Ah xs++[t]))by rw[hlin.o,Gi,if_neg hu];rfl)
   have Hcut:=Aa (fun W=>Sz u 10 W aI);have hcl:=Mq 10 u;have hsh:(Dj 10 u).2.2=true->(Dj 10 u).2.1.length<u.length:=fun h=>by
    rcases Fy 10 u with⟨_,e⟩|⟨p,t,e1,_,e⟩
    ·rw[e]at h;cases h
    rw[e];show t.length<u.length;rw[e1];simp;omega
   have Hsh:=Aa hsh;generalize Dj 10 u=q at *;obtain⟨ln,rest,told⟩:=q;simp only at hcl Hlin Hsh;have hcl1:=hcl.1;have hcl2:=hcl.2;clear hcl hu hlin hsh;go_wp2_with fail;refine(Hcut.o _).mono ?_;rintro e w1 ⟨rfl,k1,rfl⟩;unfold Qfb;cases told with
   |false=>
    have Hend:=Aa (show Ck s=none by rw[HF.o,Hlin.o];simp);go_wp2_with fail;go_ret2;exact Jb.no Hend.o rfl (below_drewN hbr.o _)
   |true=>
    have hrl:=Hsh.o aK;rcases Nat.eq_or_lt_of_le hx8 with h8|h8
    ·have q1:((xs.length:Int) == 8)=true:=by simp[h8]
     have Hend:=Aa (show Ck s=none by rw[HF.o,Hlin.o];simp[Ah,h8]);clear h8;go_wp2_with fail;go_ret2;exact Jb.no Hend.o rfl (below_drewN hbr.o _)
    have q1:((xs.length:Int) == 8)=false:=cf
    have Hlin2:=Aa (show Gi (s.length+1) s []=(match Fe ln with
     |none=>none
     |some t=>if (Ah xs).any (fun v=>decide (v.name=t.name))=true then none else Gi fuel rest (Ah xs++[t]))by rw[Hlin.o,if_neg (by simp[Ah];omega)])
    have Htype:=Aa (fun W=>Qc8 ln W aI);have Htok:=Aa (fun t (h:Fe ln=some t)=>(Ga.1 h).1);clear Hlin;generalize Fe ln=ot at Hlin2 Htype Htok;go_wp2_with fail;refine(Htype.o _).mono ?_;rintro e w2 ⟨hcase,hb2⟩;have hbo:Below wo wo w2:=(below_drewN (Aq _ _) k1).trans (by simpa using hb2);have Hbo:=Aa hbo;cases ot with
    |none=>
     obtain⟨pp,rfl⟩:=hcase;have Hend:=Aa (show Ck s=none by rw[HF.o,Hlin2.o]);go_wp2_with fail;refine Bm [45,46,47,48,49,50,51,52,53,54,55,56,57,58] aN aN aN (fun u=>by dsimp only[Bl,Bk,List.set,am,Nat.reduceAdd])
      (fun i v W=>match i with|0=>v=.bool false|1=>v=.bool true|2=>v=.bool true|13=>v=.bool true|_=>True) (fun L U W=>∃q,W=(w2).drewN q) (fun _ _=>True) (fun _ _ _ _ _ h=>h) ⟨1,rfl⟩ ?_ ?_
     ·repeat (first|exact Bb.nil|(refine Bb.cons ?_ ?_;rotate_left))
      all_goals
       rintro L U W hL hpre ⟨q,rfl⟩ hun hdep K hK;clear hun hdep;first|(simp[Region.binds]at hpre;done)|simp[Region.binds]at hpre|clear hpre
       go_simp;first|exact hK _ _ _ rfl Ae ⟨q,rfl⟩ rfl|exact hK _ _ _ rfl Ae ⟨q,rfl⟩ aJ|exact hK undef _ _ Ae Ae ⟨q,rfl⟩ aJ|exact hK _ _ _ Ae Ae ⟨q,rfl⟩ rfl|exact hK _ _ _ Ae Ae ⟨q,rfl⟩ aJ
     rintro L U W hL hφ ⟨q,rfl⟩;have e13:U 13=.bool true:=hφ 13 aL;simp only[e13];clear hφ hL;go_wp2_with fail;go_ret2;exact j6
    |some t=>
     obtain⟨x,hxt,rfl,hxb,hxty,hxf⟩:=hcase;subst hxt;have hxb2:wo.heap.size<=x.blk:=by simpa using hxb
     have hxz:x.blk<w2.heap.size:=hxty.1;have y1:w2.cell? (x.blk,1)=x.ty.name:=hxty.2.2.2.1;have u0:=(hbo.cell (p:=⟨w.heap.size+1,0,none⟩) (show w.heap.size+1<wo.heap.size by omega)).trans s0;have u1:=(hbo.cell (p:=⟨w.heap.size+1,1,none⟩) (show w.heap.size+1<wo.heap.size by omega)).trans s1;have Hnm2:=Aa (D5.below hnm.o hbo);have Hxty:=Aa hxty;have Hxf:=Aa hxf;have Htk:=Aa (Htok.o x.ty rfl);have hnl:x.ty.name.length<=3:=(Fc.1 Htk.o.2.1).2.1;have hlook:∀q,(Instr.lookup 133 (.map (some w.heap.size)) x.ty.name false).run prog (w2.drewN q)=.ok (Rb (Fh xs x.ty.name)) (w2.drewN q):=fun q=>Fw (D5.below Hnm2.o (below_drewN (Aq _ _) q)) x.ty.name aI;have hz2:wo.heap.size<=w2.heap.size:=hbo.size;clear hbo s0 s1 hxty hxf;unfold PT.ptr;cases hfp:Fh xs x.ty.name with
     |some z=>
      have Hend:=Aa (show Ck s=none by
       rw[HF.o,Hlin2.o];have:(Ah xs).any (fun v=>decide (v.name=x.ty.name))=true:=by
        cases hh:(Ah xs).any (fun v=>decide (v.name=x.ty.name))with
        |true=>rfl
        |false=>rw[Zp.2 hh]at hfp;cases hfp
       simp[this])
      rw[hfp]at hlook;unfold Rb PT.ptr at hlook;clear hfp;go_wp2_with fail;refine Bm [45,46,47,48,49,50,51,52,53,54,55,56,57,58] aN aN aN (fun u=>by dsimp only[Bl,Bk,List.set,am,Nat.reduceAdd])
       (fun i v W=>match i with|0=>v=.bool true|1=>v=.bool false|2=>v=.bool false|3=>v=(w,1,0)|4=>v=(w,1,0)|5=>v=(w,1,1)|6=>v=.map (some w.heap.size)|7=>v=x.blk|8=>v=x.blk|9=>v=(x.blk,1)|10=>v=x.ty.name|11=>v=z.blk|12=>v=.bool true|13=>v=.bool true|_=>True) (fun L U W=>∃q,W=(w2).drewN q) (fun _ _=>True) (fun _ _ _ _ _ h=>h) ⟨1,rfl⟩ ?_ ?_
      ·exact gh
      rintro L U W hL hφ ⟨q,rfl⟩;have e13:U 13=.bool true:=hφ 13 aL;simp only[e13];clear hφ hL;go_wp2_with fail;go_ret2;exact j6
     |none=>
      have Hany:=Aa (Zp.1 hfp);have Hfp:=Aa hfp;rw[hfp]at hlook;unfold Rb at hlook;clear hfp
      have Hlin3:=Aa (show Gi (s.length+1) s []=Gi fuel rest (Ah (xs++[x]))by
       rw[Hlin2.o];show (if _ then _ else _)=_;rw[if_neg (by rw[Hany.o];decide)];simp[Ah])
      go_wp2_with fail;refine Bm [45,46,47,48,49,50,51,52,53,54,55,56,57,58] aN aN aN (fun u=>by dsimp only[Bl,Bk,List.set,am,Nat.reduceAdd])
       (fun i v W=>match i with|0=>v=.bool true|1=>v=.bool false|2=>v=.bool false|3=>v=(w,1,0)|4=>v=(w,1,0)|5=>v=(w,1,1)|6=>v=.map (some w.heap.size)|7=>v=x.blk|8=>v=x.blk|9=>v=(x.blk,1)|10=>v=x.ty.name|11=>v=.pointer none|12=>v=.bool false|13=>v=.bool false|_=>True) (fun L U W=>∃q,W=(w2).drewN q) (fun _ _=>True) (fun _ _ _ _ _ h=>h) ⟨1,rfl⟩ ?_ ?_
      ·exact gh
      rintro L U W hL hφ ⟨q,rfl⟩;have e13:U 13=.bool false:=hφ 13 aL;simp only[e13];clear hφ hL;obtain⟨w3,hw3⟩:∃w3,w3=w2.drewN q:=⟨_,rfl⟩
      rw[<-hw3];have hb3:Below wo wo w3:=by rw[hw3];exact below_drewN Hbo.o _
      have hb23:Below w2 w2 w3:=by rw[hw3];exact below_drewN (Aq _ _) _
      have Hx3:=Aa (Hxty.o.below hb23);have hown3:=Cr hown.o hb3;have hT3:=Ar hT.o (show w.heap.size+1<wo.heap.size by omega) hb3;have hK3:=An hK.o (show w.heap.size+1<wo.heap.size by omega) hb3;have hz3:wo.heap.size<=w3.heap.size:=hb3.size;have v0:w3.cell? (w,1,0)=some (.slice A xs.length cA):=by simpa using Ab hT3 0 rfl
      have Hb3:=Aa hb3;have Hown3:=Aa hown3;have HT3:=Aa hT3;have HK3:=Aa hK3;have Hnm3:=Aa (D5.below Hnm2.o hb23);have Hb23:=Aa hb23;clear hlook hb3 hown3 hT3 hK3 hw3 hb23 u0 u1 y1;go_wp2_with (at_builtin;refine Fg _ rfl _ _ 132 rfl (w.heap.size+2) 90 (.pointer none) 8 underlying132 Tryz.infoPt rfl w3 x.blk rfl rfl (.slice A xs.length cA) xs.length (xs.map (·.ptr)) rfl rfl Hown3.o bc aI aI ?_;intro v5 w5 hown5 hg5 hwh;have hb5:Below (w.heap.size+2) w3 w5:=(Aq _ _).grown hg5 aI (fun k hk=>(Hown3.o.lt k hk).1);have HT5:=Aa (Ar HT3.o (show w.heap.size+1<w.heap.size+2 by omega) hb5);have HK5:=Aa (An HK3.o (show w.heap.size+1<w.heap.size+2 by omega) hb5);have Hnm5:=Aa (D5.belowAt Hnm3.o (show w.heap.size<w.heap.size+2 by omega) hb5);have Hty5:=Aa (Zf.push hty.o Hb3.o hown.o Hx3.o hxb2 (fun k hk=>(by have:=Hxf.o k hk;simpa using this)) aI hg5 hwh);obtain⟨A5,n5,c5,e5⟩:=Qbu hown5;subst e5;have Hown5:=Aa hown5;have Hb5:=Aa hb5;have p0:w5.cell? (w,1,0)=some (.slice A xs.length cA):=(by simpa using Ab HT5.o 0 rfl);have f0:w5.frozen? (w,1,0)=false:=(by simpa using(HK5.o 0 aL).2);have hz5:w3.heap.size<=w5.heap.size:=hg5.size;clear hown5 hg5 hwh hb5 v0)
      obtain⟨w6,hw6⟩:∃w6,w6=w5.setCell ⟨w.heap.size+1,0,none⟩ (.slice A5 n5 c5):=⟨_,rfl⟩
      rw[<-hw6];have hg6:w5.grownBy w6 (some (w.heap.size+1)):=by rw[hw6];exact Q8 _ _ _
      have hT6:w6.rangeAt (w.heap.size+1) 0 [.slice A5 n5 c5,.map (some w.heap.size)]:=by rw[hw6];exact Cm [] [.slice A xs.length cA] [.map (some w.heap.size)] [.slice A5 n5 c5] HT5.o rfl
      have hK6:w6.there (w.heap.size+1) 0 2:=by rw[hw6];exact ai HK5.o (w.heap.size+1) 0 [.slice A5 n5 c5]
      have Hown6:=Aa (Hown5.o.kept hg6 (.inr (fun e=>by have:=(Hown5.o.lt _ e).1;omega)));have Hnm6:=Aa (D5.kept Hnm5.o hg6 aK);have Hty6:=Aa (Hty5.o.far hg6 aI);have Hb6:=@Aa (Below w w w6) (((hbr.o.trans (Hb3.o.mono aI)).trans (Hb5.o.mono aI)).trans (by rw[hw6];exact(Aq _ _).setCell aK _));have hz6:w.heap.size+2<=w6.heap.size:=ad aI hg6.size;have m1:w6.cell? (w,1,1)=some (.map (some w.heap.size)):=by simpa using Ab hT6 1 rfl
      have n1:w6.cell? (x.blk,1)=x.ty.name:=(Hty6.o.1 x aK).1.2.2.2.1;have HT6:=Aa hT6;have HK6:=Aa hK6;clear hw6 hg6 hT6 hK6 p0 f0;refine Bm [69,70,71,72,73,74,75,76,77,999] aN aN aN (fun u=>by dsimp only[Bl,Bk,List.set,am,Nat.reduceAdd])
       (fun i v W=>match i with|0=>v=(w,1,0)|1=>v=(w,1,0)|2=>v=(w,1,1)|3=>v=.map (some w.heap.size)|4=>v=x.blk|5=>v=x.blk|6=>v=(x.blk,1)|7=>v=x.ty.name|8=>v=x.blk|_=>True) (fun L U W=>∃q,(L 9=false->W=w6.drewN q)/\(L 9=true->(w6.drewN q).grownBy W (some w.heap.size)/\Pv W w.heap.size (xs++[x]))) (fun _ _=>True) (fun _ _ _ _ _ h=>h) ⟨1,fun _=>rfl,by simp⟩ ?_ ?_
      ·repeat (first|exact Bb.nil|(refine Bb.cons ?_ ?_;rotate_left))
       all_goals
        rintro L U W hL hpre ⟨q,hq1,hq2⟩ hun hdep K hK;have Hdep:=Aa hdep;have Hq2:=Aa hq2;clear hun hdep hq2;first|(simp[Region.binds]at hpre;done)|simp[Region.binds]at hpre|clear hpre
       ·obtain rfl:=hq1 (Ct Hdep.o 9 3 rfl (Ct Hdep.o 3 2 rfl (Ct Hdep.o 2 1 rfl (Ct Hdep.o 1 0 rfl hL))));exact j7
       ·obtain rfl:=hq1 (Ct Hdep.o 9 3 rfl (Ct Hdep.o 3 2 rfl (Ct Hdep.o 2 1 rfl hL)));exact j7
       ·obtain rfl:=hq1 (Ct Hdep.o 9 3 rfl (Ct Hdep.o 3 2 rfl hL));exact j7
       ·obtain rfl:=hq1 (Ct Hdep.o 9 3 rfl hL);exact j7
       ·obtain rfl:=hq1 (Ct Hdep.o 9 7 rfl (Ct Hdep.o 7 6 rfl (Ct Hdep.o 6 5 rfl (Ct Hdep.o 5 4 rfl hL))));exact j7
       ·obtain rfl:=hq1 (Ct Hdep.o 9 7 rfl (Ct Hdep.o 7 6 rfl (Ct Hdep.o 6 5 rfl hL)));exact j7
       ·obtain rfl:=hq1 (Ct Hdep.o 9 7 rfl (Ct Hdep.o 7 6 rfl hL));exact j7
       ·obtain rfl:=hq1 (Ct Hdep.o 9 7 rfl hL);exact j7
       ·obtain rfl:=hq1 (Ct Hdep.o 9 8 rfl hL);exact j7
       ·obtain rfl:=hq1 hL;obtain⟨w7,hrun,r1,r2⟩:=D5.store (D5.below Hnm6.o (below_drewN (Aq _ _) q)) Tryz.keyStr underlying133 bc x.blk (Qhg (n:=x.ty.name) aI);have hn7:Pv w7 w.heap.size (xs++[x]):=by
         unfold Pv;rw[ah];exact r1.of_eq (fun l hl=>Qdw Hfp.o l hl)
        have R2:=Aa r2;have Hn7:=Aa hn7;clear r1 r2 hn7;go_simp;exact hK undef _ _ Ae Ae ⟨q,fun h=>by simp at h,fun _=>⟨R2.o,Hn7.o⟩⟩ aJ
      rintro L U W hL hφ ⟨q,_,hq2⟩;obtain⟨hg7,hn7⟩:=hq2 (hL 9 aL);have hzq:w6.heap.size<=W.heap.size:=by have:=hg7.size;simpa using this
      have hb7:Below w w W:=(below_drewN Hb6.o q).grown hg7 aO (fun k hk=>by injection hk with hk;omega);have HT7:=Aa (Ee (Ar HT6.o (show w.heap.size+1<w6.heap.size by omega) (below_drewN (Aq _ _) q)) hg7 aK);have HK7:=Aa (Dn (An HK6.o (show w.heap.size+1<w6.heap.size by omega) (below_drewN (Aq _ _) q)) hg7 aO aK);have Hown7:=Aa ((Cr Hown6.o (below_drewN (Aq _ _) q)).kept hg7 (.inr (fun e=>by have:=(Hown6.o.lt _ e).1;omega)));have Hty7:=Aa ((Hty6.o.below (below_drewN (Aq _ _) q)).far hg7 aI);have Hn7:=Aa hn7;have Hb7:=Aa hb7;clear hL hφ hq2 hg7 hn7 hb7 m1 n1;go_wp2_with fail;go_roundw
      case rel=>exact⟨rest,fuel,xs++[x],.slice A5 n5 c5,rfl,by omega,by omega,Hlin3.o,by simp;omega,HT7.o,HK7.o,by rw[ah,aA];exact Hown7.o,Hn7.o,Hty7.o,Hb7.o,by omega⟩
      case measure=>rw[Ky,Ky];omega
theorem Qah(s:List UInt8)(w:World)(hs:s.length<=4000000):
  Calls prog 61 #[s] w (Jb (Ck s) w):=by
 by_cases h:400<s.length
 ·exact Qcp s w hs h
 exact Qf8 s w aI
theorem Do(b:Nat):∀(vs:List Value) (o:Nat) (w:World),w.grownBy (w.setCells b o vs) (some b)
 |[],_,w=>World.grownBy.refl _ _
 |v::r,o,w=>(Q8 w ⟨b,o,none⟩ v).trans (Do b r (o+1) _)
def Pa(o:Option (List Ty × Kd))(w:World)(e:Ending)(w':World):Prop:=
 (match o with
  |some x=>∃p xs,Ah xs=x.1/\e=.returned (.tuple #[p,Fi x.2,.bool true])/\Rx w.heap.size w' p xs
  |none=>∃(p:Option Addr) (a b c:ByteArray),e=.returned (.tuple #[.pointer p,.agg #[.string a,.string b,.string c],.bool false]))/\Below w w w'
theorem Pa.no{w w':World}{e:Ending}{o:Option (List Ty × Kd)}(ho:o=none){p:Option Addr}{a b c:ByteArray}(he:e=.returned (.tuple #[.pointer p,.agg #[.string a,.string b,.string c],.bool false]))(hb:Below w w w'):Pa o w e w':=by
 rw[ho];exact⟨⟨p,a,b,c,he⟩,hb⟩
theorem Vm(s d:List UInt8)(w:World)(hs:s.length<=4000000)(hd:d.length<=4000000):
  Calls prog 41 #[s,d] w (Pa (Bq s d) w):=by
 have Hrs:=Aa (fun W=>Qah s W hs);have Hrk:=Aa (fun W=>Th d W hd);have HF:=@Aa (Bq s d=(match Ck s with|none=>none|some S=>match C5 d with|none=>none|some k=>if Bu S k then some (S,k)else none)) rfl;have Hkok:=Aa (fun k (h:C5 d=some k)=>(Fm.1 h).1);generalize Ck s=oS at HF Hrs;generalize C5 d=oK at HF Hrk Hkok;go_enter func41,ntmps41;go_wp2_with fail;refine(Hrs.o _).mono ?_;rintro e w1 ⟨hcase,hb1⟩;have hz1:w.heap.size<w1.heap.size:=fm;have HT1:=@Aa (w1.there w 0 3) (An (Cu w [a6,a6,a6] 60) aK hb1);have Hb1:=@Aa (Below w w w1) (((Aq _ _).alloc (Al _) _).trans (hb1.mono aK));clear hb1;cases oS with
 |none=>
  obtain⟨p,rfl⟩:=hcase;go_wp2_with ((with_reducible refine Ac (op:=⟨none,.store 60 _ _,_,_,_,none⟩) rfl 60 _ _ rfl w 0 [a6,a6,a6] ?_ ?_ ?_ ?_ ?_ ?_);rfl;rfl;(exact HT1.o);kernel_rfl;(simp[Value.oneCell']);intro w9 HS9)
  have HZ:=@Aa (w9.rangeAt w 0 [a6,a6,a6]) (by rw[HS9.o];exact aa _ _ _ _ HT1.o);refine aG (v:=.tuple #[.pointer none,.agg ([a6,a6,a6]:List Value).toArray,.bool false]) ?_ rfl ?_
  ·exact Gv results41 _ _ w.heap.size [a6,a6,a6] _ _ _ rfl rfl rfl HZ.o underlying60 rfl aN
  exact Pa.no HF.o rfl (by rw[HS9.o];exact Ak _ (Al _) _ _ _ Hb1.o)
 |some S=>
  obtain⟨p,xs,hxs,rfl,hsl⟩:=hcase;subst hxs;have Hsl:=@Aa (Rx (w.heap.size+1) w1 p xs) (by simpa using hsl);obtain⟨pb,_,_,_,hp,_⟩:=hsl;subst hp;go_wp2_with fail;refine(Hrk.o _).mono ?_;rintro e w2 ⟨hcase,hb2⟩;cases oK with
  |none=>
   obtain⟨a1,a2,a3,rfl⟩:=hcase;have hz4:w2.heap.size<(w2.alloc (.cells #[.string a1,.string a2,.string a3] 60)).heap.size:=aK;have hz2:w.heap.size<w2.heap.size:=eV;have HT4:=@Aa ((w2.alloc (.cells #[.string a1,.string a2,.string a3] 60)).there w 0 3) (au (An HT1.o hz1 hb2) _);have HX4:=@Aa ((w2.alloc (.cells #[.string a1,.string a2,.string a3] 60)).rangeAt w2 0 [.string a1,.string a2,.string a3]) (Br w2 [.string a1,.string a2,.string a3] _);have Hsl4:=@Aa (Rx (w.heap.size+1) (w2.alloc (.cells #[.string a1,.string a2,.string a3] 60)) pb xs) ((Hsl.o.below hb2).below ((Aq _ _).alloc (Al _) _));have Hb4:=@Aa (Below w w (w2.alloc (.cells #[.string a1,.string a2,.string a3] 60))) ((Hb1.o.trans (hb2.mono Hb1.o.size)).alloc aI _);clear hb2;go_wp2_with fail;refine Bm [23,24,25,26,27,28,29,30,4,999,6] aN aN aN (fun u=>by dsimp only[Bl,Bk,List.set,am,Nat.reduceAdd])
    (fun i v W=>match i with|0=>v=pb|1=>v=.agg ([.string a1,.string a2,.string a3]:List Value).toArray|2=>v=.bool false|3=>v=.bool false|7=>v=.bool false|8=>v=pb|10=>v=.bool false|_=>True) (fun L U W=>Below w w W/\w2.heap.size<W.heap.size/\W.there w 0 3/\W.rangeAt w2 0 [.string a1,.string a2,.string a3]/\Rx (w.heap.size+1) W pb xs/\(L 9=true->W.rangeAt w 0 [.string a1,.string a2,.string a3])) (fun _ _=>True) (fun _ _ _ _ _ h=>h) ⟨Hb4.o.drew,by simp,by simpa using HT4.o,by simpa using HX4.o,Hsl4.o.below ((Aq _ _).drew),by simp⟩ ?_ ?_
   ·repeat (first|exact Bb.nil|(refine Bb.cons ?_ ?_;rotate_left))
    all_goals
     rintro L U W hL hpre hR hun hdep K hK;have HR:=Aa hR;obtain⟨_,_,_,hxr,_,_⟩:=hR;have c0:W.cell? (w2,0)=some (.string a1):=by simpa using Ab hxr 0 rfl
     have c1:W.cell? (w2,1)=some (.string a2):=by simpa using Ab hxr 1 rfl
     have c2:W.cell? (w2,2)=some (.string a3):=by simpa using Ab hxr 2 rfl
     clear hun hdep hxr;first|(simp[Region.binds]at hpre;done)|simp[Region.binds]at hpre|clear hpre
    iterate 9 exact fT
    ·obtain⟨r1,r2,r3,r4,r5,r6⟩:=HR.o;rw[if_pos dm];refine wp_store_mid 60 _ _ rfl w 0 ([.string a1,.string a2,.string a3]:List Value).toArray rfl hpre.1.2 r3 aN bL ?_;exact j8
    ·exact fT
   rintro L U W hL hφ ⟨r1,r2,r3,r4,r5,r6⟩;have e8:U 8=pb:=hφ 8 aL;have e10:U 10=.bool false:=hφ 10 aL;have hr0:=r6 (hL 9 aL);simp only[e8,e10];have R1:=Aa r1;have R5:=Aa r5;have R0:=Aa hr0;clear hL hφ r1 r2 r3 r4 r5 r6 hr0;go_wp2_with fail;refine aG (v:=.tuple #[pb,.agg ([.string a1,.string a2,.string a3]:List Value).toArray,.bool false]) ?_ rfl ?_
   ·exact Gv results41 _ _ w.heap.size [.string a1,.string a2,.string a3] _ _ _ rfl rfl rfl R0.o underlying60 rfl aN
   exact Pa.no HF.o rfl R1.o
  |some k=>
   have hcase':e=.returned (.tuple #[.agg #[k.signs,k.base,k.name],.bool true]):=hcase;subst hcase';clear hcase;have hkn:k.name.length<=100:=ad (Pi (Hkok.o k rfl)) aL;have hz4:w2.heap.size<(w2.alloc (.cells #[k.signs,k.base,k.name] 60)).heap.size:=aK;have hz2:w.heap.size<w2.heap.size:=eV;have HT4:=@Aa ((w2.alloc (.cells #[k.signs,k.base,k.name] 60)).there w 0 3) (au (An HT1.o hz1 hb2) _);have HX4:=@Aa ((w2.alloc (.cells #[k.signs,k.base,k.name] 60)).rangeAt w2 0 [k.signs,k.base,k.name]) (Br w2 [k.signs,k.base,k.name] _);have Hsl4:=@Aa (Rx (w.heap.size+1) (w2.alloc (.cells #[k.signs,k.base,k.name] 60)) pb xs) ((Hsl.o.below hb2).below ((Aq _ _).alloc (Al _) _));have Hb4:=@Aa (Below w w (w2.alloc (.cells #[k.signs,k.base,k.name] 60))) ((Hb1.o.trans (hb2.mono Hb1.o.size)).alloc aI _);clear hb2;go_wp2_with fail;have HF3:=@Aa (Bq s d=if Bu (Ah xs) k then some (Ah xs,k)else none) HF.o;refine Bm [23,24,25,26,27,28,29,30,4,999,6] aN aN aN (fun u=>by dsimp only[Bl,Bk,List.set,am,Nat.reduceAdd])
    (fun i v W=>match i with|0=>v=pb|1=>v=.agg ([k.signs,k.base,k.name]:List Value).toArray|2=>v=.bool true|3=>v=.bool true|4=>v=pb|5=>v=.agg ([k.signs,k.base,k.name]:List Value).toArray|6=>v=.bool (decide (Bu (Ah xs) k))|7=>v=.bool (decide (Bu (Ah xs) k))|8=>v=pb|10=>v=.bool (decide (Bu (Ah xs) k))|_=>True) (fun L U W=>Below w w W/\w2.heap.size<W.heap.size/\W.there w 0 3/\W.rangeAt w2 0 [k.signs,k.base,k.name]/\Rx (w.heap.size+1) W pb xs/\(L 9=true->W.rangeAt w 0 [k.signs,k.base,k.name])) (fun _ _=>True) (fun _ _ _ _ _ h=>h) ⟨Hb4.o.drew,by simp,by simpa using HT4.o,by simpa using HX4.o,Hsl4.o.below ((Aq _ _).drew),by simp⟩ ?_ ?_
   ·repeat (first|exact Bb.nil|(refine Bb.cons ?_ ?_;rotate_left))
    all_goals
     rintro L U W hL hpre hR hun hdep K hK;have HR:=Aa hR;obtain⟨_,_,_,hxr,_,_⟩:=hR;have c0:W.cell? (w2,0)=k.signs:=by simpa using Ab hxr 0 rfl
     have c1:W.cell? (w2,1)=k.base:=by simpa using Ab hxr 1 rfl
     have c2:W.cell? (w2,2)=k.name:=by simpa using Ab hxr 2 rfl
     clear hun hdep hxr;first|(simp[Region.binds]at hpre;done)|simp[Region.binds]at hpre|clear hpre
    iterate 6 exact fT
    ·go_simp;obtain⟨r1,r2,r3,r4,r5,r6⟩:=HR.o;refine(Qe1 _ xs k W r5.isc.map hkn).mono ?_;rintro e w5 ⟨rfl,hb5⟩;exact hK (.bool (decide (Bu (Ah xs) k))) _ _ rfl Ae ⟨r1.trans (hb5.mono r1.size),ac r2 hb5.size,An r3 (show w.heap.size<W.heap.size by omega) hb5,Ar r4 r2 hb5,r5.below hb5,fun h=>Ar (r6 h) (show w.heap.size<W.heap.size by omega) hb5⟩ aJ
    ·exact fT
    ·exact fT
    ·obtain⟨r1,r2,r3,r4,r5,r6⟩:=HR.o;rw[if_pos dm];refine wp_store_mid 60 _ _ rfl w 0 ([k.signs,k.base,k.name]:List Value).toArray rfl hpre.1.2 r3 aN bL ?_;exact j8
    ·exact fT
   rintro L U W hL hφ ⟨r1,r2,r3,r4,r5,r6⟩;have e8:U 8=pb:=hφ 8 aL;have e10:U 10=.bool (decide (Bu (Ah xs) k)):=hφ 10 aL;have hr0:=r6 (hL 9 aL);simp only[e8,e10];have R1:=Aa r1;have R5:=Aa r5;have R0:=Aa hr0;clear hL hφ r1 r2 r3 r4 r5 r6 hr0;go_wp2_with fail;refine aG (v:=.tuple #[pb,.agg ([k.signs,k.base,k.name]:List Value).toArray,.bool (decide (Bu (Ah xs) k))]) ?_ rfl ?_
   ·exact Gv results41 _ _ w.heap.size [k.signs,k.base,k.name] _ _ _ rfl rfl rfl R0.o underlying60 rfl aN
   by_cases hr:Bu (Ah xs) k
   ·rw[aE hr];unfold Pa;rw[HF3.o,if_pos hr]
    exact⟨⟨_,xs,rfl,rfl,by
     obtain⟨b,A,c,mb,q0,q1,q2,q3,q4,q5,q6,q7,l1,l2,l3,l4⟩:=R5.o;exact⟨b,A,c,mb,q0,q1,q2,q3,q4,q5,q6,q7,by omega,by omega,fun g o h1 h2=>by have:=l3 g o h1 h2;omega,fun x hx=>⟨by have:=(l4 x hx).1;omega,fun k h1 h2=>by have:=(l4 x hx).2 k h1 h2;omega⟩⟩⟩,R1.o⟩
   rw[aD hr];exact Pa.no (HF3.o.trans (if_neg hr)) rfl R1.o
def Kf(B:Nat)(w:World)(v:Value):Option Fd->Prop
 |none=>v=.pointer none
 |some f=>∃b o,v=.pointer (some ⟨b,o,none⟩)/\b<B/\w.rangeAt b o (Tq f)
theorem Kf.below{B:Nat}{w w':World}{v:Value}{o:Option Fd}(h:Kf B w v o)(hb:Below B w w'):Kf B w' v o:=by
 cases o with
 |none=>exact h
 |some f=>obtain⟨b,o,e,h1,h2⟩:=h;exact⟨b,o,e,h1,Ar h2 h1 hb⟩
def Qm0(B:Nat)(o:Option Fd)(w:World)(e:Ending)(w':World):Prop:=∃v,e=.returned v/\Kf B w v o/\w=w'
theorem Mj(w0:World)(x:PT)(hx:Tc w0 x)(n:Nat)(w:World)(hb:Below w0 w0 w)(hn:n<=1000000000):
  Calls prog 57 #[x.blk,.int .i64 n] w (Qm0 w0.heap.size (Ap x.ty.fields n) w):=by
 obtain⟨z0,_,_,_,z3,_,A,c,hfv,hl,hr⟩:=hx;rw[hfv]at z3;have c2:w.cell? (x.blk,2)=some (.slice A x.ty.fields.length c):=(hb.cell (p:=⟨x.blk,2,none⟩) z0).trans z3;have Hr:=Aa hr;have Hb:=Aa hb;clear hr hfv z3 hb;go_enter func57,ntmps57;go_wp2_with fail;go_loop [11] (fun i=>∃k:Nat,i=.int .i64 k/\k<=x.ty.fields.length/\Hid (∀f∈x.ty.fields.take k,decide (f.tag=n)=false)) (fun i=>x.ty.fields.length - (intOf i).toNat)
 case atStart=>exact⟨0,rfl,ag _,by intro f hf;simp at hf⟩
 case round=>
  obtain⟨k,rfl,hk,hin⟩:=hrel;by_cases hlt:k<x.ty.fields.length
  ·obtain⟨b,off,rfl,hbl,hrg⟩:=Qag.range Hr.o hlt;have hrw:=Ar hrg hbl Hb.o;have Hts:=Aa (Cv x.ty.fields k hlt);have Hft:=Aa (Tr (p:=fun f=>decide (f.tag=n)) hlt hin.o);generalize x.ty.fields[k]=f at hrg hrw Hts Hft;have c0:w.cell? ⟨b,off+k*6,none⟩=(f.tag:Int):=by simpa using Ab hrw 0 rfl
   have Hrw:=Aa hrw;clear hrw hrg;have k1:(0:Int)<=(k:Int):=aI;have k2:(k:Int)<(x.ty.fields.length:Int):=aI;by_cases he:f.tag=n
   ·have t1:((f.tag:Int) == (n:Int))=true:=by simp[he]
    have Hfin:=Aa (show Ap x.ty.fields n=some f by unfold Ap;rw[Hft.o,if_pos cQ]);clear he;go_wp2_with fail;go_ret;exact⟨_,rfl,by rw[Hfin.o];exact⟨b,off+k*6,rfl,hbl,Hrw.o⟩,rfl⟩
   have t1:((f.tag:Int) == (n:Int))=false:=cf
   have Hin:=Aa (show ∀g∈x.ty.fields.take (k+1),decide (g.tag=n)=false by
    intro g hg;rw[Hts.o]at hg;rcases af.1 hg with hg|hg
    ·exact hin.o g hg
    simp at hg;subst hg;simpa using he)
   clear he;go_wp2_with fail;go_round
   case rel=>exact⟨k+1,by go_num,by omega,Hin.o⟩
   case measure=>simp[intOf];omega
  ·have Hfin:=@Aa (Ap x.ty.fields n=none) (Ng (fun f hf=>hin.o f du));go_wp2_with fail;go_ret;exact⟨_,rfl,by rw[Hfin.o];rfl,rfl⟩
theorem Qdi(p:Value)(c:UInt8)(t:List UInt8)(b nm:ByteArray)(w:World)(hc:c=91\/c=63)(hl:t.length<=1000):
  Calls prog 118 #[p,.agg #[.string ⟨(c::t).toArray⟩,.string b,.string nm]] w (H4 (Qh0 c) w):=by
 rcases hc with rfl|rfl
 ·go_enter func118,ntmps118;go_wp2_with fail;refine(Je 91 t hl _ _ _).mono ?_;rintro e w1 ⟨rfl,hb1⟩;go_wp2_with fail;exact j9
 go_enter func118,ntmps118;go_wp2_with fail;refine(Je 63 t hl _ _ _).mono ?_;rintro e w1 ⟨rfl,hb1⟩;go_wp2_with fail;exact j9
theorem Zt(p:Value)(b:List UInt8)(nm:ByteArray)(w:World)(hb:b=[110]\/b=[116]\/b=[102]):
  Calls prog 118 #[p,.agg #[a6,b,.string nm]] w (H4 (Qai b) w):=by
 rcases hb with rfl|rfl|rfl<;>
 ·go_enter func118,ntmps118;go_wp2_with fail;refine(Ey _ _ _).mono ?_;rintro e w1 ⟨rfl,hb1⟩;obtain⟨hc1,_,_⟩:=Ci hb1;have y1:=hc1 w 1 aK;simp at y1;clear hc1;have Hb1:=Aa (((Aq w.heap.size w).alloc (Al _) _).trans (hb1.mono aK));clear hb1;go_wp2_with fail;exact ja
def kcs(k:Kd):List Value:=[k.signs,k.base,k.name]
def Ew(v:Vl)(sl:Value):List Value:=[.int .u8 (v.what.toNat:Int),v.text,(v.tag:Int),sl]
def K0(w:World)(b:Nat)(p:Value)(k:Kd)(t:List UInt8)(bad:Bool)(W:World):Prop:=
 D2 w b p t bad W/\W.rangeAt w 0 (kcs k)/\W.there (w.heap.size+1) 0 4/\w.heap.size+1<W.heap.size
theorem K0.init{w:World}{b:Nat}{p:Value}{k:Kd}{t:List UInt8}{bad:Bool}(h:G0 w b p t bad){T U:TypeId}:K0 w b p k t bad ((w.alloc (.cells #[k.signs,k.base,k.name] T)).alloc (.cells #[.int .u8 0,a6,.int .i64 0,.slice none 0 0] U)):=by
 have h1:Below w w ((w.alloc (.cells #[k.signs,k.base,k.name] T)).alloc (.cells #[.int .u8 0,a6,.int .i64 0,.slice none 0 0] U)):=((Aq _ _).alloc (Al _) _).alloc aK _;refine⟨⟨h.grow h1,Cd h1 _⟩,?_,?_,by simp⟩
 ·have:=Ar (Br w (kcs k) T) (show w.heap.size<(w.alloc (.cells (kcs k).toArray T)).heap.size by simp) ((Aq _ _).alloc (Al _) (.cells #[.int .u8 0,a6,.int .i64 0,.slice none 0 0] U));exact this
 have:=Cu (w.alloc (.cells #[k.signs,k.base,k.name] T)) [.int .u8 0,a6,.int .i64 0,.slice none 0 0] U;simpa using this
theorem K0.post{w W W':World}{b:Nat}{p:Value}{k:Kd}{t:List UInt8}{bad:Bool}(h:K0 w b p k t bad W)(hb:Below W W W'):K0 w b p k t bad W':=
 ⟨h.1.post hb,Ar h.2.1 (by have:=h.2.2.2;omega) hb,An h.2.2.1 h.2.2.2 hb,ac h.2.2.2 hb.size⟩
theorem K0.step{w W W':World}{b:Nat}{p:Value}{k:Kd}{t t':List UInt8}{bad bad':Bool}(h:K0 w b p k t bad W)(hb:b<w.heap.size)(hs:D2 W b p t' bad' W'):K0 w b p k t' bad' W':=
 ⟨h.1.trans hs,Ee h.2.1 hs.2 aO,Dn h.2.2.1 hs.2 h.2.2.2 aO,ac h.2.2.2 hs.2.size⟩
theorem K0.fin{w W w9:World}{b N:Nat}{p:Value}{k:Kd}{t t':List UInt8}{bad':Bool}{v:Vl}{sl:Value}{r:Option (Vl × List UInt8)}(F:K0 w b p k t' bad' W)(hb:b<w.heap.size)(HS:w9=W.setCells (w.heap.size+1) 0 (Ew v sl))
  (hv:Eb (fun c=>w.heap.size+2<=c) W sl v.kids) (hr:bad'=r.isNone) (hx:∀x,r=some x->v=x.1/\t'=x.2) (hB:Bd v) (hl:t'.length<=t.length) (hn:(Aw v).length+t'.length<=t.length+8*N):
  Ma w b p t N r (.returned (.agg (Ew v sl).toArray)) w9/\w9.rangeAt (w.heap.size+1) 0 (Ew v sl):=by
 subst HS hr;exact⟨⟨v,sl,t',rfl,(hv.set (B:=w.heap.size+1) aI _).mono fun c hc _=>by omega,F.1.set aI aI _,hx,hB,hl,hn⟩,aa _ _ _ _ F.2.2.1⟩
theorem Qad(b N:Nat)(p:Value)(t:List UInt8)(k:Kd)(w:World)(h:G0 w b p t true):
  Calls prog 87 #[b,Fi k] w (Ma w b p t N none):=by
 have HS:=Aa h;obtain⟨h0,h1,h2,h3,h4⟩:=h;have hbn:¬(b=w.heap.size):=aI;have hbn2:¬(b=w.heap.size+1):=aI;unfold Fi;clear h1 h2 h3;go_enter func87,ntmps87;go_wp2_with fail;have F:=(K0.init (k:=k) HS.o (T:=60) (U:=68)).1;refine aG (v:=.agg (Ew Eu (.slice none 0 0)).toArray) ?_ rfl ⟨Eu,.slice none 0 0,t,rfl,Eb.nil _ _,F,aK,Ft aL aL,Al _,by simp[Eu,Aw,Di,Gl]⟩;refine Ba results87 _ _ (w.heap.size+1) _ _ rfl ?_ underlying68 rfl aN;have:=Br (w.alloc (.cells #[k.signs,k.base,k.name] 60)) [.int .u8 0,a6,.int .i64 0,.slice none 0 0] 68;simpa [Ew,Eu,Vl.what,Vl.text,Vl.tag]using this
theorem Qey(t:List UInt8):Sl t=if H6 999999 t then some (Js t,t.dropWhile Bh)else none:=by
 unfold Sl H6 Js;cases h:Cx (t.takeWhile Bh)with
 |none=>simp
 |some n=>simp[(Bw.1 h).1]
theorem Qb6(t:List UInt8):Js t<=999999:=by
 unfold Js;cases h:Cx (t.takeWhile Bh)with
 |none=>simp
 |some n=>exact(Bw.1 h).1
theorem Qci(p:UInt8->Bool)(t:List UInt8):(t.dropWhile p).length<=t.length:=(S5 p t).2
theorem Qkk(b N:Nat)(p:Value)(t:List UInt8)(k:Kd)(w:World)(h:G0 w b p t false)(hl:t.length<=900)(hs:k.signs=[])(hb:k.base=[110])(q:Option (Vl × List UInt8))(hq:q=match Sl t with|some (n,r)=>some (.mk 110 (Az n) 0 [],r)|none=>none):
  Calls prog 87 #[b,Fi k] w (Ma w b p t (N+1) q):=by
 have HQ:=Aa hq;have HS:=Aa h;have hb0:=h.1;have hbn:¬(b=w.heap.size):=aI;have hbn2:¬(b=w.heap.size+1):=aI;have c2:=h.2.2.2.2;clear hq;obtain⟨sg,bs,nm⟩:=k;simp only at hs hb;have HN:=Aa (Qey t);have hnn:=Qb6 t;have Hn:=Aa (fun W (h:G0 W b p t false)=>Qd b 999999 p t false W h aI aL);have Hd:=Aa (fun W=>M7 (Js t) (Js t) W (Al _) aI);have hdl:=C9 5 (Js t) dG;have hdr:=Qci Bh t;generalize Js t=n at *;generalize H6 999999 t=ok at *;generalize t.dropWhile Bh=r at *;subst hs hb;unfold Fi;simp only;clear h;go_enter func87,ntmps87;go_wp2_with fail;refine(Ey _ _ _).mono ?_;rintro e w2 ⟨rfl,hb2⟩;have F2:=Aa ((K0.init (k:=⟨[],[110],nm⟩) HS.o).post hb2);clear hb2 c2;have k0:=Ab F2.o.2.1 0 rfl;have k1:=Ab F2.o.2.1 1 rfl;have k2:=Ab F2.o.2.1 2 rfl;simp only[am]at k0 k1 k2;have s2:=F2.o.1.1.2.2.2.2;go_wp2_with fail;refine(Hn.o _ F2.o.1.1).mono ?_;rintro e w3 ⟨rfl,hs3⟩;have F3:=Aa (F2.o.step hb0 hs3);clear hs3 k0 k1 k2 s2;go_wp2_with fail;refine(Hd.o _).mono ?_;rintro e w4 ⟨rfl,hb4⟩;have F4:=Aa (F3.o.post hb4);clear hb4;go_wp2_with ((with_reducible refine Ac (op:=⟨none,.store 68 _ _,_,_,_,none⟩) rfl 68 _ _ rfl (w.heap.size+1) 0 [.int .u8 110,.string ⟨(Az n).toArray⟩,.int .i64 0,.slice none 0 0] ?_ ?_ ?_ ?_ ?_ ?_);rfl;rfl;(exact F4.o.2.2.1);kernel_rfl;(simp[Value.oneCell']);intro w9 HS9)
 have HQ:=HQ.o;rw[HN.o]at HQ;have Z:=K0.fin (t:=t) (N:=N+1) (v:=.mk 110 (Az n) 0 []) (sl:=.slice none 0 0) (r:=q) F4.o hb0 HS9.o (Eb.nil _ _) (by rw[HQ];cases ok<;>rfl)
  (by rw[HQ];cases ok<;>simp) (Ft aL aI) hdr eX
 exact aG (v:=.agg (Ew (.mk 110 (Az n) 0 []) (.slice none 0 0)).toArray) (Ba results87 _ _ (w.heap.size+1) _ _ rfl Z.2 underlying68 rfl aN) rfl Z.1
theorem Qj4(b N:Nat)(p:Value)(t:List UInt8)(k:Kd)(w:World)(h:G0 w b p t false)(hl:t.length<=900)(hs:k.signs=[])(hb:k.base=[116])(q:Option (Vl × List UInt8))(hq:q=match Nq t with|some (x,r)=>some (.mk 116 x 0 [],r)|none=>none):
  Calls prog 87 #[b,Fi k] w (Ma w b p t (N+1) q):=by
 have HQ:=Aa hq;have HS:=Aa h;have hb0:=h.1;have hbn:¬(b=w.heap.size):=aI;have hbn2:¬(b=w.heap.size+1):=aI;have c2:=h.2.2.2.2;clear hq;obtain⟨sg,bs,nm⟩:=k;simp only at hs hb;have Hn:=Aa (fun W (h:G0 W b p t false)=>Qg4 b p t false W h aI);subst hs hb;unfold Fi;simp only;clear h;go_enter func87,ntmps87;go_wp2_with fail;refine(Ey _ _ _).mono ?_;rintro e w2 ⟨rfl,hb2⟩;have F2:=Aa ((K0.init (k:=⟨[],[116],nm⟩) HS.o).post hb2);clear hb2 c2;have k0:=Ab F2.o.2.1 0 rfl;have k1:=Ab F2.o.2.1 1 rfl;have k2:=Ab F2.o.2.1 2 rfl;simp only[am]at k0 k1 k2;have s2:=F2.o.1.1.2.2.2.2;go_wp2_with fail;refine(Hn.o _ F2.o.1.1).mono ?_;rintro e w3 ⟨x,r,bad,rfl,hs3,hx,hxl⟩;have F3:=Aa (F2.o.step hb0 hs3);have Hx:=Aa hx;clear hs3 hx k0 k1 k2 s2;go_wp2_with ((with_reducible refine Ac (op:=⟨none,.store 68 _ _,_,_,_,none⟩) rfl 68 _ _ rfl (w.heap.size+1) 0 [.int .u8 116,x,.int .i64 0,.slice none 0 0] ?_ ?_ ?_ ?_ ?_ ?_);rfl;rfl;(exact F3.o.2.2.1);kernel_rfl;(simp[Value.oneCell']);intro w9 HS9)
 have HQ:=HQ.o;rw[show Nq t=if bad then none else some (x,r)from Hx.o]at HQ;have Z:=K0.fin (t:=t) (N:=N+1) (v:=.mk 116 x 0 []) (sl:=.slice none 0 0) (r:=q) F3.o hb0 HS9.o (Eb.nil _ _) (by rw[HQ];cases bad<;>rfl)
  (by rw[HQ];cases bad<;>simp) (Ft aL aI) aI eX
 exact aG (v:=.agg (Ew (.mk 116 x 0 []) (.slice none 0 0)).toArray) (Ba results87 _ _ (w.heap.size+1) _ _ rfl Z.2 underlying68 rfl aN) rfl Z.1
theorem Ql8(b N:Nat)(p:Value)(t:List UInt8)(k:Kd)(w:World)(h:G0 w b p t false)(hl:t.length<=900)(hs:k.signs=[])(hb:k.base=[102])(q:Option (Vl × List UInt8))(hq:q=match P7 t with|some (x,r)=>some (.mk 102 (if x then Dk else H7) 0 [],r)|none=>none):
  Calls prog 87 #[b,Fi k] w (Ma w b p t (N+1) q):=by
 have HQ:=Aa hq;have HS:=Aa h;have hb0:=h.1;have hbn:¬(b=w.heap.size):=aI;have hbn2:¬(b=w.heap.size+1):=aI;have c2:=h.2.2.2.2;clear hq;obtain⟨sg,bs,nm⟩:=k;simp only at hs hb;have HFL:=@Aa (P7 t=(match Bg Dk t false with|some r=>some (true,r)|none=>match Bg H7 t false with|some r=>some (false,r)|none=>none)) rfl;have Hy:=Aa (fun W (h:G0 W b p t false)=>J7 b p t Dk false W h aI);have Hw:=Aa (fun W (h:G0 W b p t false)=>Dx b p t H7 false W h aI);have Hl1:=Aa (fun r (h:Bg Dk t false=some r)=>(Gu (p:=Dk)).1 h);have Hl2:=Aa (fun r (h:Bg H7 t false=some r)=>(Gu (p:=H7)).1 h);subst hs hb;unfold Fi;simp only;clear h;rcases hy:Bg Dk t false with _|r
 ·rw[hy]at Hy HFL;unfold Dk at Hy;unfold H7 at Hw
  have HL:=Aa (show ((Bg H7 t false).getD t).length<=t.length from by
   cases h:Bg H7 t false with
   |none=>exact Al _
   |some r=>rw[Hl2.o r h];simp)
  clear hy;go_enter func87,ntmps87;go_wp2_with fail;refine(Ey _ _ _).mono ?_;rintro e w2 ⟨rfl,hb2⟩;have F2:=Aa ((K0.init (k:=⟨[],[102],nm⟩) HS.o).post hb2);clear hb2 c2;have k0:=Ab F2.o.2.1 0 rfl;have k1:=Ab F2.o.2.1 1 rfl;have k2:=Ab F2.o.2.1 2 rfl;simp only[am]at k0 k1 k2;have s2:=F2.o.1.1.2.2.2.2;go_wp2_with fail;refine(Hy.o _ F2.o.1.1).mono ?_;rintro e w3 ⟨rfl,hs3⟩;simp only[Option.getD_none]at hs3;have F3:=Aa (F2.o.step hb0 hs3);clear hs3 k0 k1 k2 s2;go_wp2_with fail;refine(Hw.o _ F3.o.1.1).mono ?_;rintro e w4 ⟨rfl,hs4⟩;have F4:=Aa (F3.o.step hb0 hs4);clear hs4;go_wp2_with ((with_reducible refine Ac (op:=⟨none,.store 68 _ _,_,_,_,none⟩) rfl 68 _ _ rfl (w.heap.size+1) 0 [.int .u8 102,.string ⟨#[110,111]⟩,.int .i64 0,.slice none 0 0] ?_ ?_ ?_ ?_ ?_ ?_);rfl;rfl;(exact F4.o.2.2.1);kernel_rfl;(simp[Value.oneCell']);intro w9 HS9)
  have HQ:=HQ.o;rw[HFL.o]at HQ;have hl2:=HL.o;have Z:=K0.fin (t:=t) (N:=N+1) (v:=.mk 102 H7 0 []) (sl:=.slice none 0 0) (r:=q) F4.o hb0 HS9.o (Eb.nil _ _) (by rw[HQ];unfold H7;cases Bg [110,111] t false<;>rfl)
   (by rw[HQ];unfold H7;cases Bg [110,111] t false<;>simp) (Ft aL aL) hl2 (by unfold H7 at hl2 ⊢;simp[Aw,Di,Gl];omega)
  exact aG (v:=.agg (Ew (.mk 102 H7 0 []) (.slice none 0 0)).toArray) (Ba results87 _ _ (w.heap.size+1) _ _ rfl Z.2 underlying68 rfl aN) rfl Z.1
 rw[hy]at Hy HFL;unfold Dk at Hy;have hlr:=Hl1.o r hy;have hlr2:t.length=3+r.length:=by rw[hlr];simp[Dk];omega
 clear hy hlr;go_enter func87,ntmps87;go_wp2_with fail;refine(Ey _ _ _).mono ?_;rintro e w2 ⟨rfl,hb2⟩;have F2:=Aa ((K0.init (k:=⟨[],[102],nm⟩) HS.o).post hb2);clear hb2 c2;have k0:=Ab F2.o.2.1 0 rfl;have k1:=Ab F2.o.2.1 1 rfl;have k2:=Ab F2.o.2.1 2 rfl;simp only[am]at k0 k1 k2;have s2:=F2.o.1.1.2.2.2.2;go_wp2_with fail;refine(Hy.o _ F2.o.1.1).mono ?_;rintro e w3 ⟨rfl,hs3⟩;simp only[Option.getD_some]at hs3;have F3:=Aa (F2.o.step hb0 hs3);clear hs3 k0 k1 k2 s2;go_wp2_with ((with_reducible refine Ac (op:=⟨none,.store 68 _ _,_,_,_,none⟩) rfl 68 _ _ rfl (w.heap.size+1) 0 [.int .u8 102,.string ⟨#[121,101,115]⟩,.int .i64 0,.slice none 0 0] ?_ ?_ ?_ ?_ ?_ ?_);rfl;rfl;(exact F3.o.2.2.1);kernel_rfl;(simp[Value.oneCell']);intro w9 HS9)
 have HQ:=HQ.o;rw[HFL.o]at HQ;have Z:=K0.fin (t:=t) (N:=N+1) (v:=.mk 102 Dk 0 []) (sl:=.slice none 0 0) (r:=q) F3.o hb0 HS9.o (Eb.nil _ _) (by rw[HQ];rfl)
  (by rw[HQ];simp) (Ft aL aL) aI (by unfold Dk;simp[Aw,Di,Gl];omega)
 exact aG (v:=.agg (Ew (.mk 102 Dk 0 []) (.slice none 0 0)).toArray) (Ba results87 _ _ (w.heap.size+1) _ _ rfl Z.2 underlying68 rfl aN) rfl Z.1
theorem Qia(B0 b:Nat)(p:Value)(t:List UInt8)(bad:Bool)(sk:Value)(e:Nat)(u:FrameMode)(w:World)(hB:w.cell? ⟨B0,0,none⟩=some (.pointer (some ⟨b,0,none⟩)))(h:Md w b p t bad sk (e+1))(he:e<=1000):
  CallsD prog 179 #[.pointer (some ⟨B0,0,none⟩)] u w fun e' u' w'=>u'=u/\(e'=.returned (.tuple #[])/\w'=w.setCell ⟨b,4,none⟩ (.int .i64 (e:Int))):=by
 have c4:=h.c4
 have f4:=h.bk.live 4
 have e1:((e+1:Nat):Int)=(e:Int)+1:=by omega
 rw[e1]at c4
 have e2:IntKind.i64.wrap ((e:Int)+1 - 1)=(e:Int):=by rw[IntWalk.i64_in _ (by omega)];omega
 clear h e1
 go_enter_d func179,ntmps179
 go_wp2
 go_end0
 exact⟨rfl,rfl⟩
def Pp(w:World)(b:Nat)(p:Value)(t:List UInt8)(sk:Value)(e N:Nat)(r:Option (Vl × List UInt8))(en:Ending)(w':World):Prop:=
 ∃(v:Vl) (sl:Value) (t':List UInt8) (sk':Value),en=.returned (Gf v sl)/\Eb (fun c=>w.heap.size<=c) w' sl v.kids/\Q5 w b p t' r.isNone sk' e w'/\(∀x,r=some x->v=x.1/\t'=x.2)/\t'.length<=t.length /\
  (e≠0->sk'=sk)/\(e=0->∀x,r=some x->∃A c,sk'=.slice A N c)
def Ha(w:World)(b:Nat)(p:Value)(k:Kd)(t:List UInt8)(bad:Bool)(sk:Value)(e:Nat)(W:World):Prop:=
 Q5 w b p t bad sk (e+1) W/\W.cell? ⟨w.heap.size,0,none⟩=some (.pointer (some ⟨b,0,none⟩))/\W.rangeAt (w.heap.size+1) 0 (kcs k)/\W.there (w.heap.size+1+1) 0 4/\w.heap.size+1+1<W.heap.size
theorem Ha.init0{w W:World}{b e:Nat}{p sk:Value}{k:Kd}{t:List UInt8}{bad:Bool}(h1:Md W b p t bad sk (e+1))(hg:w.grownBy W (some b))(hz:W.heap.size=w.heap.size){T U V:TypeId}:
  Ha w b p k t bad sk e (((W.alloc (.cells #[.pointer (some ⟨b,0,none⟩)] T)).alloc (.cells #[.string ⟨k.signs.toArray⟩,.string ⟨k.base.toArray⟩,.string ⟨k.name.toArray⟩] U)).alloc (.cells #[.int .u8 0,.string ⟨#[]⟩,.int .i64 0,.slice none 0 0] V)):=by
 have b1:Below W.heap.size W (W.alloc (.cells #[.pointer (some ⟨b,0,none⟩)] T)):=(Aq _ _).alloc (Al _) _
 have hz1:(W.alloc (.cells #[.pointer (some ⟨b,0,none⟩)] T)).heap.size=w.heap.size+1:=by simp[hz]
 have q1:(W.alloc (.cells #[.pointer (some ⟨b,0,none⟩)] T)).cell? ⟨w.heap.size,0,none⟩=some (.pointer (some ⟨b,0,none⟩)):=by rw[<-hz];simp
 generalize W.alloc (.cells #[.pointer (some ⟨b,0,none⟩)] T)=W1 at *
 have b2:Below W1.heap.size W1 (W1.alloc (.cells #[.string ⟨k.signs.toArray⟩,.string ⟨k.base.toArray⟩,.string ⟨k.name.toArray⟩] U)):=(Aq _ _).alloc (Al _) _
 have q2:=Br W1 (kcs k) U
 have hz2:(W1.alloc (.cells #[.string ⟨k.signs.toArray⟩,.string ⟨k.base.toArray⟩,.string ⟨k.name.toArray⟩] U)).heap.size=w.heap.size+1+1:=by simp[hz1]
 rw[hz1]at q2
 have q2:(W1.alloc (.cells #[.string ⟨k.signs.toArray⟩,.string ⟨k.base.toArray⟩,.string ⟨k.name.toArray⟩] U)).rangeAt (w.heap.size+1) 0 (kcs k):=q2
 generalize W1.alloc (.cells #[.string ⟨k.signs.toArray⟩,.string ⟨k.base.toArray⟩,.string ⟨k.name.toArray⟩] U)=W2 at *
 have b3:Below W2.heap.size W2 (W2.alloc (.cells #[.int .u8 0,.string ⟨#[]⟩,.int .i64 0,.slice none 0 0] V)):=(Aq _ _).alloc (Al _) _
 have q3:=Cu W2 [.int .u8 0,.string ⟨#[]⟩,.int .i64 0,.slice none 0 0] V
 rw[hz2]at q3
 have bb:Below W.heap.size W _:=b1.trans ((b2.trans (b3.mono (by omega))).mono (by omega))
 exact⟨⟨h1.grow bb,hg.trans (Cd bb _)⟩,((b2.trans (b3.mono (by omega))).cell (p:=⟨w.heap.size,0,none⟩) (show w.heap.size<W1.heap.size by omega)).trans q1,Ar q2 (by omega) b3,q3,by simp;omega⟩
theorem Ha.init{w:World}{b e:Nat}{p sk:Value}{k:Kd}{t:List UInt8}{bad:Bool}(h:Md w b p t bad sk e){T U V:TypeId}:
  Ha w b p k t bad sk e ((((w.setCell ⟨b,4,none⟩ (.int .i64 ((e:Int)+1))).alloc (.cells #[.pointer (some ⟨b,0,none⟩)] T)).alloc (.cells #[.string ⟨k.signs.toArray⟩,.string ⟨k.base.toArray⟩,.string ⟨k.name.toArray⟩] U)).alloc (.cells #[.int .u8 0,.string ⟨#[]⟩,.int .i64 0,.slice none 0 0] V)):=by
 have h1:=h.setDp (e+1)
 rw[show ((e+1:Nat):Int)=(e:Int)+1 by omega]at h1
 exact .init0 h1 (Ai w b 4 _) (by simp)
theorem Ha.post{w W W':World}{b e:Nat}{p sk:Value}{k:Kd}{t:List UInt8}{bad:Bool}(h:Ha w b p k t bad sk e W)(hb:Below W.heap.size W W'):Ha w b p k t bad sk e W':=
 ⟨h.1.post hb,(hb.cell (p:=⟨w.heap.size,0,none⟩) (show w.heap.size<W.heap.size by have:=h.2.2.2.2;omega)).trans h.2.1,Ar h.2.2.1 (by have:=h.2.2.2.2;omega) hb,An h.2.2.2.1 h.2.2.2.2 hb,Nat.lt_of_lt_of_le h.2.2.2.2 hb.size⟩
theorem Ha.step{w W W':World}{b e:Nat}{p sk sk':Value}{k:Kd}{t t':List UInt8}{bad bad':Bool}(h:Ha w b p k t bad sk e W)(hb:b<w.heap.size)(hs:Q5 W b p t' bad' sk' (e+1) W'):Ha w b p k t' bad' sk' e W':=
 ⟨h.1.trans hs,hs.2.cell h.2.1 (by simp;omega),Ee h.2.2.1 hs.2 (by simp;omega),Dn h.2.2.2.1 hs.2 h.2.2.2.2 (by simp;omega),Nat.lt_of_lt_of_le h.2.2.2.2 hs.2.size⟩
theorem Ha.bad{w W:World}{b e:Nat}{p sk:Value}{k:Kd}{t:List UInt8}{bad:Bool}(h:Ha w b p k t bad sk e W)(hb:b<w.heap.size):Ha w b p k t true sk e (W.setCell ⟨b,2,none⟩ (.bool true)):=
 h.step hb ⟨h.1.1.setBad true,Ai _ _ _ _⟩
theorem Ha.door0{w w9:World}{b e N:Nat}{p sk sk':Value}{t t':List UInt8}{bad':Bool}{v:Vl}{sl:Value}{r:Option (Vl × List UInt8)}{tmps:Array Value}(F:Q5 w b p t' bad' sk' (e+1) w9)(hc:w9.cell? ⟨w.heap.size,0,none⟩=some (.pointer (some ⟨b,0,none⟩)))(hb:b<w.heap.size)(he:e<=1000)
  (hz:w9.rangeAt (w.heap.size+1+1) 0 (Ew v sl)) (hv:Eb (fun c=>w.heap.size<=c) w9 sl v.kids) (hr:bad'=r.isNone) (hx:∀x,r=some x->v=x.1/\t'=x.2) (hl:t'.length<=t.length)
  (h1:e≠0->sk'=sk) (h2:e=0->∀x,r=some x->∃A c,sk'=.slice A N c) (h4:tmps.getD 4 undef=.pointer (some ⟨w.heap.size+1+1,0,none⟩)):
  bodyPostD prog Tryz.f129 (Pp w b p t sk e N r) Exit.ret {tmps:=tmps,defers:=[{target:=Target.fn (Fn.func 179) #[.pointer (some ⟨w.heap.size,0,none⟩)],args:=#[]}]} w9:=by
 subst hr
 have hg:=Ai w9 b 4 (.int .i64 (e:Int))
 refine leaves_cons (f:=179) (args:=#[.pointer (some ⟨w.heap.size,0,none⟩)]) (by simp) (by simp[go_sem]) ?_
 refine(Qia w.heap.size b p t' r.isNone sk' e .returning w9 hc F.1 he).mono ?_
 rintro en u' w'' ⟨rfl,rfl,rfl⟩
 exact⟨_,Ba results129 _ _ (w.heap.size+1+1) (Ew v sl) _ h4 (Ee hz hg (by simp;omega)) underlying68 rfl (by kernel_rfl),v,sl,t',sk',rfl,hv.grown hg fun c hc e=>by injection e with e;omega,⟨F.1.setDp e,F.2.trans hg⟩,hx,hl,h1,h2⟩
theorem Ha.door{w W w9:World}{b e N:Nat}{p sk sk':Value}{k:Kd}{t t':List UInt8}{bad':Bool}{v:Vl}{sl:Value}{r:Option (Vl × List UInt8)}{tmps:Array Value}(F:Ha w b p k t' bad' sk' e W)(hb:b<w.heap.size)(he:e<=1000)
  (HS:w9=W.setCells (w.heap.size+1+1) 0 (Ew v sl)) (hv:Eb (fun c=>w.heap.size<=c/\c≠w.heap.size+1+1) W sl v.kids) (hr:bad'=r.isNone) (hx:∀x,r=some x->v=x.1/\t'=x.2) (hl:t'.length<=t.length)
  (h1:e≠0->sk'=sk) (h2:e=0->∀x,r=some x->∃A c,sk'=.slice A N c) (h4:tmps.getD 4 undef=.pointer (some ⟨w.heap.size+1+1,0,none⟩)):
  bodyPostD prog Tryz.f129 (Pp w b p t sk e N r) Exit.ret {tmps:=tmps,defers:=[{target:=Target.fn (Fn.func 179) #[.pointer (some ⟨w.heap.size,0,none⟩)],args:=#[]}]} w9:=by
 subst HS
 refine Ha.door0 (F.1.set (B:=w.heap.size+1+1) (by omega) (by omega) (Ew v sl)) ?_ hb he (World.rangeAt_setCells_same _ _ _ (Ew v sl) F.2.2.2.1) ((hv.set (B:=w.heap.size+1+1) (by simp) _).mono fun c hc _=>hc.1) hr hx hl h1 h2 h4
 rw[World.cell?_of_block (a:=⟨w.heap.size,0,none⟩) ((Ei (w.heap.size+1+1) (Ew v sl) 0 W).block w.heap.size (by have:=F.2.2.2.2;omega) (by simp;omega))]
 exact F.2.1
theorem Md.facts{w:World}{b e:Nat}{p sk:Value}{t:List UInt8}{bad:Bool}(h:Md w b p t bad sk e)(he:e<13):
  b<w.heap.size/\w.cell? ⟨b,4,none⟩=some (.int .i64 (e:Int))/\w.frozen? ⟨b,4,none⟩=false/\w.cell? ⟨b,2,none⟩=some (.bool bad)/\¬(b=w.heap.size)/\¬(b=w.heap.size+1)/\¬(b=w.heap.size+1+1)/\b<w.heap.size+1/\b<w.heap.size+1+1 /\
   IntKind.i64.wrap ((e:Int)+1)=(e:Int)+1/\(¬((13:Int)<(e:Int)+1))/\∀(fn:Fn) (first cap:Array Value) (w:World),(Instr.makeFunc fn first cap).run prog w=.ok (.func fn first cap) w:=by
 have:=h.lt
 exact⟨h.lt,h.c4,h.bk.live 4,h.c2,by omega,by omega,by omega,by omega,by omega,IntWalk.i64_in _ (by omega),by omega,fun _ _ _ _=>rfl⟩
theorem Qbj{k:Kd}(hs:k.signs=[]){x:UInt8}(hb:k.base=[x]):k=⟨[],[x],k.name⟩:=by obtain⟨a,b,c⟩:=k;simp only at hs hb;rw[hs,hb]
theorem Qp1(b:Nat)(p:Value)(t:List UInt8)(sk:Value)(e:Nat)(k:Kd)(w:World)(h:Md w b p t false sk e)(he:e<13)(hl:t.length<=600)(h0:e=0->sk=.slice none 0 0)(hs:k.signs=[])(hb:k.base=[110])(q:Option (Vl × List UInt8))
  (hq:q=match Ag t with|some (n,r)=>some (.mk 110 (Az n) 0 [],r)|none=>none):
  Calls prog 129 #[.pointer (some ⟨b,0,none⟩),Fi k] w (Pp w b p t sk e 0 q):=by
 have HQ:=Aa hq
 have HS:=Aa h
 have H0:=Aa h0
 obtain⟨hb0,c4,f4,c2,n1,n2,n3,l1,l2,ei,e13,hmf⟩:=h.facts he
 have Hd:=Aa (fun W=>M7 (Gn t) (Gn t) W (Al _) (by have:=Qf t;omega))
 have Hn:=Aa (Mv t)
 clear h hq h0
 rw[Qbj hs hb]
 unfold Fi
 simp only
 go_enter_defers func129,ntmps129
 go_wp2_with fail
 refine(Ey _ _ _).mono ?_
 rintro en w2 ⟨rfl,hb2⟩
 have F2:=Aa ((Ha.init (k:=⟨[],[110],k.name⟩) HS.o).post hb2)
 clear hb2 c2
 have k0:=F2.o.2.1
 have k1:=Ab F2.o.2.2.1 1 rfl
 simp only[Nat.zero_add]at k1
 go_wp2_with fail
 refine(Jf b p t false sk (e+1) _ F2.o.1.1 (by omega)).mono ?_
 rintro en w3 ⟨rfl,hs3⟩
 have F3:=Aa (F2.o.step hb0 hs3)
 clear hs3 k0 k1
 go_wp2_with fail
 refine(Hd.o _).mono ?_
 rintro en w4 ⟨rfl,hb4⟩
 have F4:=Aa (F3.o.post hb4)
 clear hb4
 go_wp2_with ((with_reducible refine Ac (op:=⟨none,.store 68 _ _,_,_,_,none⟩) rfl 68 _ _ rfl (w.heap.size+1+1) 0 [.int .u8 110,.string ⟨(Az (Gn t)).toArray⟩,.int .i64 0,.slice none 0 0] ?_ ?_ ?_ ?_ ?_ ?_);rfl;rfl;(exact F4.o.2.2.2.1);kernel_rfl;(simp[Value.oneCell']);intro w9 HS9)
 have HQ2:=HQ.o
 rw[Hn.o]at HQ2
 exact Ha.door (v:=.mk 110 (Az (Gn t)) 0 []) (sl:=.slice none 0 0) F4.o hb0 (by omega) HS9.o (Eb.nil _ _) (by rw[HQ2];cases (Ag t).isNone<;>rfl)
  (by rw[HQ2];cases (Ag t).isNone<;>simp) (Nz t) (fun _=>rfl) (fun e0 x _=>⟨none,0,H0.o e0⟩) rfl
structure NtR(w:World)(b:Nat)(p:Value)(k:Kd)(t r0 r:List UInt8)(x b0 bd:Bool)(sk:Value)(e:Nat)(ln lt:Bool)(W:World):Prop where
 a:ln=false->Ha w b p k t x sk e W
 c:ln=true->lt=false->Ha w b p k r0 b0 sk e W
 d:lt=true->Ha w b p k r bd sk e W
section
variable {w:World} {b:Nat} {p:Value} {kk:Kd} {t r0 r s:List UInt8} {x b0 bd:Bool} {sk:Value} {e n:Nat}
theorem NtR.box{ln lt:Bool}{W:World}(h:NtR w b p kk t r0 r x b0 bd sk e ln lt W):W.cell? ⟨w.heap.size,0,none⟩=some (.pointer (some ⟨b,0,none⟩)):=by
 cases lt with
 |true=>exact(h.d rfl).2.1
 |false=>cases ln with
  |true=>exact(h.c rfl rfl).2.1
  |false=>exact(h.a rfl).2.1
theorem NtR.start{W:World}(h:Ha w b p kk t x sk e W):NtR w b p kk t r0 r x b0 bd sk e false false W.drew:=⟨fun _=>h.post (below_drewN (Aq _ _) 1),fun h=>Bool.noConfusion h,fun h=>Bool.noConfusion h⟩
variable {P:Program} {ops:Array Oper} {Q:Exit->Act->World->Prop} {a:Act} {mk:(Nat->Value)->Act} {G:World->Prop} {o:Oper} {os:List Oper} {i:Nat} {ps:List (Value->Prop)}
theorem ntL(k:Sq P ops Q a mk (fun l _ W=>NtR w b p kk t r0 r x b0 bd sk e (l 2) (l 3) W) G os (i+1) (ps++[fun v=>v=.pointer (some ⟨b,0,none⟩)]))(h:St P ops Q a mk (fun l _ W=>NtR w b p kk t r0 r x b0 bd sk e (l 2) (l 3) W) G i o ps (fun v=>v=.pointer (some ⟨b,0,none⟩)):=by
  intro l u W hl hp hF hG hi K hK
  have hc:=hF.o.box
  clear hp hi hG
  go_simp
  exact hK _ _ _ rfl hF.o rfl):Sq P ops Q a mk (fun l _ W=>NtR w b p kk t r0 r x b0 bd sk e (l 2) (l 3) W) G (o::os) i ps:=⟨_,h,k⟩
theorem ntN(k:Sq P ops Q a mk (fun l _ W=>NtR w b p kk t r0 r x b0 bd sk e (l 2) (l 3) W) G os (i+1) (ps++[fun v=>v=.int .i64 (n:Int)]))(h:St P ops Q a mk (fun l _ W=>NtR w b p kk t r0 r x b0 bd sk e (l 2) (l 3) W) G i o ps (fun v=>v=.int .i64 (n:Int)):=by
  intro l u W hl hp hF hG hi K hK
  have h3:l 3=false:=(hi.o 3 (by rfl)).1
  have hA:=Aa (hF.o.a hl)
  simp[Region.binds,Co]at hp
  clear hi hG hF
  go_simp
  refine(Hnum.o W hA.o.1.1).mono ?_
  rintro en w3 ⟨rfl,hs3⟩
  exact hK _ _ _ rfl ⟨fun h=>(by simp at h),fun _ _=>hA.o.step hb0 hs3,fun h=>absurd (h3.symm.trans (by simpa using h)) (by decide)⟩ (by simp[Act.put,hp])):Sq P ops Q a mk (fun l _ W=>NtR w b p kk t r0 r x b0 bd sk e (l 2) (l 3) W) G (o::os) i ps:=⟨_,h,k⟩
theorem ntT(k:Sq P ops Q a mk (fun l _ W=>NtR w b p kk t r0 r x b0 bd sk e (l 2) (l 3) W) G os (i+1) (ps++[fun v=>v=.string ⟨s.toArray⟩]))(h:St P ops Q a mk (fun l _ W=>NtR w b p kk t r0 r x b0 bd sk e (l 2) (l 3) W) G i o ps (fun v=>v=.string ⟨s.toArray⟩):=by
  intro l u W hl hp hF hG hi K hK
  simp[Region.binds,Co]at hp
  have h2:l 2=true:=by simp[hp]
  have hA:=Aa (hF.o.c h2 hl)
  clear hi hG hF
  go_simp
  refine(Htk.o W hA.o.1.1).mono ?_
  rintro en w3 ⟨rfl,hs3⟩
  exact hK _ _ _ rfl ⟨fun h=>absurd (h2.symm.trans (by simpa using h)) (by decide),fun _ h=>(by simp at h),fun _=>hA.o.step hb0 hs3⟩ (by simp[Act.put,hp])):Sq P ops Q a mk (fun l _ W=>NtR w b p kk t r0 r x b0 bd sk e (l 2) (l 3) W) G (o::os) i ps:=⟨_,h,k⟩
end
theorem Vy(t:List UInt8):Ed t=if Y8 (Ds t) (Gn t) (Ag t).isNone=true then none else some (tkS (Ds t) (Gn t) (Ag t).isNone,tkR (Ds t) (Gn t) (Ag t).isNone):=by
 unfold Ed Y8 tkS tkR Y8 Ds Gn
 cases Ag t with
 |none=>rfl
 |some q=>
  obtain⟨n,r⟩:=q
  by_cases h:n<=r.length
  ·have:¬r.length<n:=by omega
   simp[h,this]
  have:r.length<n:=by omega
  simp[h,this]
theorem Vn(t:List UInt8)(n:Nat)(x:Bool):(tkR t n x).length<=t.length:=by unfold tkR;split<;>simp
theorem Qg3(t:List UInt8)(n:Nat)(x:Bool):(tkS t n x).length<=t.length:=by unfold tkS;split<;>simp;omega
theorem Qqi(b:Nat)(p:Value)(t:List UInt8)(sk:Value)(e:Nat)(k:Kd)(w:World)(h:Md w b p t false sk e)(he:e<13)(hl:t.length<=600)(h0:e=0->sk=.slice none 0 0)(hs:k.signs=[])(hb:k.base=[116])(q:Option (Vl × List UInt8))
  (hq:q=match Ed t with|some (p,r)=>if Da p=true then some (.mk 116 p 0 [],r)else none|none=>none):
  Calls prog 129 #[.pointer (some ⟨b,0,none⟩),Fi k] w (Pp w b p t sk e 0 q):=by
 have hr1:=Vn (Ds t) (Gn t) (Ag t).isNone
 have hs1:=Qg3 (Ds t) (Gn t) (Ag t).isNone
 have hn1:=Nz t
 have Hnum:=Aa (fun W h=>Jf b p t false sk (e+1) W h (by omega))
 have Htk:=Aa (fun W h=>Pe b p (Ds t) (Ag t).isNone sk (e+1) (Gn t) W h (by omega) (Qf t))
 simp only[Bool.false_or]at Hnum
 rw[Vy t]at hq
 generalize (Ag t).isNone=b0 at *
 generalize tkS (Ds t) (Gn t) b0=s at *
 generalize tkR (Ds t) (Gn t) b0=r at *
 generalize Y8 (Ds t) (Gn t) b0=bd at *
 generalize Ds t=r0 at *
 generalize Gn t=n at *
 have HQ:=Aa hq
 have HS:=Aa h
 have H0:=Aa h0
 obtain⟨hb0,c4,f4,c2,n1,n2,n3,l1,l2,ei,e13,hmf⟩:=h.facts he
 clear h hq h0
 rw[Qbj hs hb]
 unfold Fi
 simp only
 go_enter_defers func129,ntmps129
 go_wp2_with fail
 refine(Ey _ _ _).mono ?_
 rintro en w2 ⟨rfl,hb2⟩
 have F2:=Aa ((Ha.init (k:=⟨[],[116],k.name⟩) HS.o).post hb2)
 clear hb2 c2
 have k0:=F2.o.2.1
 have k1:=Ab F2.o.2.2.1 1 rfl
 simp only[Nat.zero_add]at k1
 go_wp2_with fail
 clear k0 k1
 refine rgF (fun l u W=>NtR w b p ⟨[],[116],k.name⟩ t r0 r false b0 bd sk e (l 2) (l 3) W) (fun _=>True) (fun _ _ _ _=>Ae) (NtR.start F2.o) ?_
 iterate 2 refine ntL ?_
 refine ntN (n:=n) ?_
 refine ntT (s:=s) ?_
 refine sq ?_
 refine dn fun l u W hll _ hR=>?_
 have F3:=Aa (hR.o.d (hll 3 (by decide)))
 clear hR hll Hnum Htk
 go_wp2_with fail
 refine(Qaa s _ (by omega)).mono ?_
 rintro en w4 ⟨rfl,hb4⟩
 have F4:=Aa (F3.o.post hb4)
 clear hb4
 have HQ:=HQ.o
 have k0:=F4.o.2.1
 have k2:=F4.o.1.1.c2
 have kf:=F4.o.1.1.bk.live 2
 cases hok:Da s with
 |true=>
  have Hok:=Aa hok
  clear hok k0 k2 kf
  go_wp2_with ((with_reducible refine Ac (op:=⟨none,.store 68 _ _,_,_,_,none⟩) rfl 68 _ _ rfl (w.heap.size+1+1) 0 [.int .u8 116,.string ⟨s.toArray⟩,.int .i64 0,.slice none 0 0] ?_ ?_ ?_ ?_ ?_ ?_);rfl;rfl;(exact F4.o.2.2.2.1);kernel_rfl;(simp[Value.oneCell']);intro w9 HS9)
  exact Ha.door (v:=.mk 116 s 0 []) (sl:=.slice none 0 0) F4.o hb0 (by omega) HS9.o (Eb.nil _ _) (by rw[HQ];cases bd<;>simp[Hok.o]) (by rw[HQ];cases bd<;>simp[Hok.o]) (by omega) (fun _=>rfl) (fun e0 x _=>⟨none,0,H0.o e0⟩) rfl
 |false=>
  have F5:=Aa (F4.o.bad hb0)
  have Hok:=Aa hok
  clear hok
  go_wp2_with ((with_reducible refine Ac (op:=⟨none,.store 68 _ _,_,_,_,none⟩) rfl 68 _ _ rfl (w.heap.size+1+1) 0 [.int .u8 116,.string ⟨s.toArray⟩,.int .i64 0,.slice none 0 0] ?_ ?_ ?_ ?_ ?_ ?_);rfl;rfl;(exact F5.o.2.2.2.1);kernel_rfl;(simp[Value.oneCell']);intro w9 HS9)
  exact Ha.door (v:=.mk 116 s 0 []) (sl:=.slice none 0 0) F5.o hb0 (by omega) HS9.o (Eb.nil _ _) (by rw[HQ];cases bd<;>simp[Hok.o]) (by rw[HQ];cases bd<;>simp[Hok.o]) (by omega) (fun _=>rfl) (fun e0 x _=>⟨none,0,H0.o e0⟩) rfl
def IvC(w0:World)(b:Nat)(p:Value)(S:List Ty)(N:Nat)(k:Kd):Prop:=
 ∀(t:List UInt8) (bad:Bool) (w:World),Below w0 w0 w->G0 w b p t bad->t.length<=900->(bad=false->t.length<N) ->
  Calls prog 87 #[b,Fi k] w (Ma w b p t N (if bad then none else Am S 1000 N k t))
theorem Eb.one{P Q:Nat->Prop}{w:World}{v:Vl}{sl:Value}{T:TypeId}(h:Eb P w sl v.kids)(hQ:∀b,P b->b<w.heap.size->Q b)(hn:Q w.heap.size):
  Eb Q (w.alloc (.cells #[.int .u8 (v.what.toNat:Int),v.text,(v.tag:Int),sl] T)) (.slice (w,0) 1 1) [v]:=by
 have hb:Below w w (w.alloc (.cells #[.int .u8 (v.what.toNat:Int),v.text,(v.tag:Int),sl] T)):=(Aq _ _).alloc (Al _) _;refine .mk (w,0) 1 [(v,sl)] rfl rfl aK ⟨rfl,(show 4<=maxLen by decide),fun _=>⟨w.heap.size,0,rfl,by simp,fun j u hj=>?_⟩⟩ (fun g o _ e=>by injection e with e;injection e with e;subst e;exact hn) (fun x hx=>?_)
 ·rw[World.cell?_alloc_new];simpa [Ps]using hj
 rw[ar]at hx;subst hx;exact(h.mono hQ).after hb
theorem Ff(c:UInt8)(t:List UInt8)(bad:Bool):((Bg [c] t bad).getD t).length<=t.length:=ff
theorem Kj{c:UInt8}{t r:List UInt8}{bad:Bool}(h:Bg [c] t bad=some r):r.length+1=t.length:=by
 rw[Cp]at h;cases bad with
 |true=>cases h
 |false=>rw[if_neg aL,Cs]at h;subst h;rfl
theorem Qgn(w0:World)(b N:Nat)(p:Value)(S:List Ty)(t:List UInt8)(k:Kd)(w:World)(hw:Below w0 w0 w)(hb:w0.heap.size<=b)(h:G0 w b p t false)(hl:t.length<=900)(hN:t.length<=N)(hN2:N<=2000)(sg:List UInt8)(hs:k.signs=63::sg)(hsl:sg.length<=100)
  (H:IvC w0 b p S N k.part) (q:Option (Vl × List UInt8)) (hq:q=Qfg (Am S 1000 N k.part) t):
  Calls prog 87 #[b,Fi k] w (Ma w b p t (N+1) q):=by
 have HQ:=Aa hq;have HH:=Aa H;have HP:=Aa (fun W=>Qw k W 63 sg hs aI);have HS:=Aa h;have HW:=Aa hw;have hb0:=h.1;have hbn:¬(b=w.heap.size):=aI;have hbn2:¬(b=w.heap.size+1):=aI;have c2:=h.2.2.2.2;have hm:=Ff 43 t false;have Hlt:=Aa (fun r (h:Bg [43] t false=some r)=>Kj h);have Hlt2:=Aa (fun r (h:Bg [45] t false=some r)=>Kj h);have Htk:=Aa (fun W (h:G0 W b p t false)=>J7 b p t [45] false W h aI);have Hwt:=Aa (fun W (h:G0 W b p t false)=>Dx b p t [43] false W h aI)
 have HQ2:=Aa (show Qfg (Am S 1000 N k.part) t=(match Bg [45] t false with|some q=>some (.mk 63 [] 0 [],q)|none=>match Bg [43] t false with|none=>none|some r=>match Am S 1000 N k.part r with|some (v,q)=>some (.mk 63 [] 0 [v],q)|none=>none)from by
  rw[Cp,Cp];rfl)
 generalize Qfg (Am S 1000 N k.part) t=q0 at *;have Hkp:=Aa (rfl:Fi k=Fi k);obtain⟨sg',bs,nm⟩:=k;simp only at hs;subst hs;generalize hkp:(⟨63::sg,bs,nm⟩:Kd).part=kp at *;unfold Fi at HP ⊢;simp only at HP ⊢;clear h hq hw H Hkp hkp;rcases hy:Bg [45] t false with _|r
 ·rw[hy]at Htk HQ2;obtain⟨t1,ht1⟩:∃t1,t1=(Bg [43] t false).getD t:=⟨_,rfl⟩
  obtain⟨b1,hb1⟩:∃b1,b1=(Bg [43] t false).isNone:=⟨_,rfl⟩
  have HQ3:=Aa (show q=if b1 then none else match Am S 1000 N kp t1 with|some (v,q)=>some (.mk 63 [] 0 [v],q)|none=>none from by
   rw[HQ.o,HQ2.o,ht1,hb1];cases Bg [43] t false<;>rfl)
  have HL1:=Aa (show b1=false->t1.length<N from by
   intro h;rw[hb1]at h;cases hr:Bg [43] t false with
   |none=>rw[hr]at h;cases h
   |some r=>have:=Hlt.o r hr;rw[ht1,hr];simp;omega)
  rw[<-ht1]at hm;rw[<-ht1,<-hb1]at Hwt;clear hy ht1 hb1 HQ2 HQ;go_enter func87,ntmps87;go_wp2_with fail;refine(Je 63 sg aI _ _ _).mono ?_;rintro e w2 ⟨rfl,hb2⟩;have F2:=Aa ((K0.init (k:=⟨63::sg,bs,nm⟩) HS.o).post hb2);clear hb2 c2;go_wp2_with fail;refine(Htk.o _ F2.o.1.1).mono ?_;rintro e w3 ⟨rfl,hs3⟩;simp only[Option.getD_none]at hs3;have F3:=Aa (F2.o.step hb0 hs3);clear hs3;go_wp2_with fail;refine(Hwt.o _ F3.o.1.1).mono ?_;rintro e w4 ⟨rfl,hs4⟩;have F4:=Aa (F3.o.step hb0 hs4);clear hs4;have k0:=Ab F4.o.2.1 0 rfl;have k1:=Ab F4.o.2.1 1 rfl;have k2:=Ab F4.o.2.1 2 rfl;simp only[am]at k0 k1 k2;go_wp2_with fail;refine(HP.o _).mono ?_;rintro e w5 ⟨rfl,hb5⟩;have F5:=Aa (F4.o.post hb5);clear hb5 k0 k1 k2;go_wp2_with fail;refine(HH.o t1 b1 _ (F5.o.1.env HW.o hb) F5.o.1.1 aI HL1.o).mono ?_;rintro e w6 ⟨v,sl,t',rfl,hk,hs6,hx,hB,hl6,hn6⟩;obtain⟨A7,c7,rfl⟩:=hk.form;have F6:=Aa (F5.o.step hb0 hs6);have hz5:=F5.o.2.2.2;have Hk:=Aa hk;have Hx:=Aa hx;have HB:=Aa hB;clear hs6 hk hx hB;unfold Gf;have F7:=Aa (fun o=>F6.o.post ((Aq _ _).alloc (Al _) o));go_wp2_with ((with_reducible refine Ac (op:=⟨none,.store 68 _ _,_,_,_,none⟩) rfl 68 _ _ rfl (w.heap.size+1) 0 [.int .u8 63,a6,.int .i64 0,.slice (w6,0) 1 1] ?_ ?_ ?_ ?_ ?_ ?_);rfl;rfl;(exact(Aa (F7.o _)).o.2.2.1);kernel_rfl;(simp[Value.oneCell']);intro w9 HS9)
  have hz6:=F6.o.2.2.2;have Z:=K0.fin (t:=t) (N:=N+1) (v:=.mk 63 [] 0 [v]) (sl:=.slice (w6,0) 1 1) (r:=q) (F7.o _) hb0 HS9.o (Hk.o.one (fun c hc _=>by omega) aI)
   (by rw[HQ3.o];cases b1 with
    |true=>rfl
    |false=>simp only[an,if_false];cases Am S 1000 N kp t1 with
     |none=>rfl
     |some y=>rfl)
   (by rw[HQ3.o];cases b1 with
    |true=>simp
    |false=>
     simp only[an,if_false];have hx2:=Hx.o;simp only[an,if_false]at hx2;cases hr:Am S 1000 N kp t1 with
     |none=>simp
     |some y=>obtain⟨e1,e2⟩:=hx2 y hr;rintro x hxx;injection hxx with hxx;subst hxx;exact⟨by rw[e1],e2⟩)
   (.mk aL dT aK (fun x hx=>by rw[ar]at hx;subst hx;exact HB.o)) aI (by simp[Aw,Di,Gl,Ax];omega)
  exact aG (v:=.agg (Ew (.mk 63 [] 0 [v]) (.slice (w6,0) 1 1)).toArray) (Ba results87 _ _ (w.heap.size+1) _ _ rfl Z.2 underlying68 rfl aN) rfl Z.1
 rw[hy]at Htk HQ2;have hlt:=Hlt2.o r hy;clear hy;go_enter func87,ntmps87;go_wp2_with fail;refine(Je 63 sg aI _ _ _).mono ?_;rintro e w2 ⟨rfl,hb2⟩;have F2:=Aa ((K0.init (k:=⟨63::sg,bs,nm⟩) HS.o).post hb2);clear hb2 c2;go_wp2_with fail;refine(Htk.o _ F2.o.1.1).mono ?_;rintro e w3 ⟨rfl,hs3⟩;simp only[Option.getD_some]at hs3;have F3:=Aa (F2.o.step hb0 hs3);clear hs3;go_wp2_with ((with_reducible refine Ac (op:=⟨none,.store 68 _ _,_,_,_,none⟩) rfl 68 _ _ rfl (w.heap.size+1) 0 [.int .u8 63,a6,.int .i64 0,.slice none 0 0] ?_ ?_ ?_ ?_ ?_ ?_);rfl;rfl;(exact F3.o.2.2.1);kernel_rfl;(simp[Value.oneCell']);intro w9 HS9)
 have HQ:=HQ.o;rw[HQ2.o]at HQ;have Z:=K0.fin (t:=t) (N:=N+1) (v:=.mk 63 [] 0 []) (sl:=.slice none 0 0) (r:=q) F3.o hb0 HS9.o (Eb.nil _ _) (by rw[HQ];rfl)
  (by rw[HQ];simp) (Ft aL aL) aI eX
 exact aG (v:=.agg (Ew (.mk 63 [] 0 []) (.slice none 0 0)).toArray) (Ba results87 _ _ (w.heap.size+1) _ _ rfl Z.2 underlying68 rfl aN) rfl Z.1
end
theorem Yn:(prog.info? 68).map (fun i=>(i.zero,i.size,i.bytes))=some (some (.agg #[.int .u8 0,a6,.int .i64 0,.slice none 0 0]),4,56):=aN
structure Sj(base B:Nat)(W:World)(h0 h1 h2 u rv:Value)(xs:List (Vl × Value)):Prop where
 lt:B<W.heap.size
 bs:base<=W.heap.size
 hB:B<base
 bk:Qk W B
 c0:W.cell? (B,0)=some h0
 c1:W.cell? (B,1)=some h1
 c2:W.cell? (B,2)=some h2
 c3:W.cell? (B,3)=some u
 row:W.ownsRow base 68 4 rv xs.length (xs.flatMap Ps)
 kids:∀x∈xs,Eb (fun c=>base<=c/\rv.ownBlock≠some c) W x.2 x.1.kids
theorem Sj.after{base B:Nat}{W W':World}{h0 h1 h2 u rv:Value}{xs:List (Vl × Value)}(h:Sj base B W h0 h1 h2 u rv xs)(hb:Below W W W'):Sj base B W' h0 h1 h2 u rv xs:=by
 obtain⟨hc,_,hz⟩:=Ci hb;exact⟨hz _ h.lt,ad h.bs hb.size,h.hB,h.bk.belowAt h.lt hb,(hc _ _ h.lt).trans h.c0,(hc _ _ h.lt).trans h.c1,(hc _ _ h.lt).trans h.c2,(hc _ _ h.lt).trans h.c3,Cr h.row hb,fun x hx=>(h.kids x hx).after hb⟩
theorem Sj.step{base B b:Nat}{W W':World}{h0 h1 h2 u rv:Value}{xs:List (Vl × Value)}(h:Sj base B W h0 h1 h2 u rv xs)(hg:W.grownBy W' (some b))(hb:b<base)(hne:b≠B):Sj base B W' h0 h1 h2 u rv xs:=by
 have hn:some B≠some b:=fun e=>ez
 exact⟨ac h.lt hg.size,ad h.bs hg.size,h.hB,h.bk.grown h.lt hg hn,hg.cell h.c0 hn,hg.cell h.c1 hn,hg.cell h.c2 hn,hg.cell h.c3 hn,
  h.row.kept hg (by
   cases hr:rv.ownBlock with
   |none=>cases rv with
    |slice A a b=>cases A with
     |none=>exact .inl rfl
     |some x=>simp[Value.ownBlock]at hr
    |_=>exact .inl rfl
   |some k=>have:=(h.row.lt k hr).1;exact .inr ck),
  fun x hx=>(h.kids x hx).grown hg fun c hc e=>by injection e with e;omega⟩
theorem Sj.store{base B:Nat}{W:World}{h0 h1 h2 u rv:Value}{xs:List (Vl × Value)}(h:Sj base B W h0 h1 h2 u rv xs):Sj base B (W.setCell ⟨B,3,none⟩ rv) h0 h1 h2 rv rv xs:=by
 have hg:=Ai W B 3 rv;have hf:=h.bk.live 3;refine⟨by simpa using h.lt,by simpa using h.bs,h.hB,h.bk.set _,by simp[go_sem,h.c0],by simp[go_sem,h.c1],by simp[go_sem,h.c2],by simp[go_sem,h.c3,hf],h.row.kept hg ?_,fun x hx=>(h.kids x hx).grown hg fun c hc e=>by injection e with e;have:=h.hB;omega⟩;cases hr:rv.ownBlock with
 |none=>cases rv with
  |slice A a b=>cases A with
   |none=>exact .inl rfl
   |some x=>simp[Value.ownBlock]at hr
  |_=>exact .inl rfl
 |some k=>have:=(h.row.lt k hr).1;have:=h.hB;exact .inr ck
theorem Sj.app{base B:Nat}{W W':World}{h0 h1 h2 u rv rv':Value}{xs:List (Vl × Value)}{x:Vl × Value}(h:Sj base B W h0 h1 h2 u rv xs)(hx:Eb (fun c=>base<=c/\rv.ownBlock≠some c) W x.2 x.1.kids)
  (hown:W'.ownsRow base 68 4 rv' (xs.length+1) (xs.flatMap Ps++Ps x)) (hg:W.grownBy W' rv.ownBlock) (hwh:rv'.ownBlock=rv.ownBlock\/∃k,rv'.ownBlock=some k/\W.heap.size<=k):Sj base B W' h0 h1 h2 u rv' (xs++[x]):=by
 have hn:some B≠rv.ownBlock:=fun e=>eO;refine⟨ac h.lt hg.size,ad h.bs hg.size,h.hB,h.bk.grown h.lt hg hn,hg.cell h.c0 hn,hg.cell h.c1 hn,hg.cell h.c2 hn,hg.cell h.c3 hn,by simpa using hown,fun y hy=>?_⟩;have hy':Eb (fun c=>base<=c/\rv.ownBlock≠some c) W y.2 y.1.kids:=by
  rcases af.1 hy with hy|hy
  ·exact h.kids y hy
  rw[ar]at hy;subst hy;exact hx
 refine hy'.kept (fun b o v hb _ hv=>hg.cell hv fun e=>hb.2 e.symm) hg.size fun c hc hl=>⟨hc.1,?_⟩
 rcases hwh with e|⟨k,e,hk⟩
 ·rw[e];exact hc.2
 exact iB
theorem Sj.done{base B:Nat}{W:World}{h0 h1 h2 u rv:Value}{xs:List (Vl × Value)}(h:Sj base B W h0 h1 h2 u rv xs)(hl:xs.length<=1000):Eb (fun c=>base<=c) W rv (Av xs):=by
 rcases h.row.2 with⟨rfl,h0⟩|⟨g,cap,cur,rfl,hbg,hh,hnc,hcm,hcs,htk⟩
 ·obtain rfl:xs=[]:=List.eq_nil_of_length_eq_zero h0;exact Eb.nil _ _
 refine .mk (g,0) cap xs rfl rfl hl ⟨Mx Qdh xs,by unfold maxLen;omega,fun hn=>⟨g,0,rfl,(h.row.lt g rfl).2,fun j u hu=>?_⟩⟩ (fun g' o _ e=>by injection e with e;injection e with e;subst e;exact hbg) fun x hx=>(h.kids x hx).mono fun c hc _=>hc.1;have:=h.row.cells (g:=g) rfl j u hu;have e1:(⟨g,0,none⟩:Addr).add j=⟨g,0+j,none⟩:=bq;rwa [e1]at this
theorem Jl{w:World}{base k n m c:Nat}{e:TypeId}{A:Option Addr}{xs:List Value}(h:w.ownsRow base e k (.slice A m c) n xs):m=n:=by
 rcases h.2 with⟨e,h0⟩|⟨g,cap,cur,e,_⟩
 ·injection e with _ e1 e2;omega
 injection e with _ e1 e2
theorem K0.app{w W W':World}{b:Nat}{p:Value}{k:Kd}{t:List UInt8}{bad:Bool}{row:Option Nat}(h:K0 w b p k t bad W)(hb:b<w.heap.size)(hg:W.grownBy W' row)(hr:∀k,row=some k->w.heap.size+2<=k):K0 w b p k t bad W':=by
 have hn:∀c,c<w.heap.size+2->some c≠row:=fun c hc e=>by have:=hr c e.symm;omega
 obtain⟨⟨⟨h0,h1,h2,h3,h4⟩,hg0⟩,k1,k2,k3⟩:=h
 exact⟨⟨⟨ac h0 hg.size,h1.grown h0 hg (hn b aI),hg.cell h2 (hn b aI),hg.cell h3 (hn b aI),hg.cell h4 (hn b aI)⟩,⟨hg.os.trans hg0.os,hg.tape.trans hg0.tape,hg.output.trans hg0.output,ad hg0.size hg.size,fun k hk hne=>(hg.block k (ac hk hg0.size) (hn k aI)).trans (hg0.block k hk hne)⟩⟩,
  Ee k1 hg (hn _ aI),Dn k2 hg k3 (hn _ aI),ac k3 hg.size⟩
theorem K0.put{w W:World}{b B o:Nat}{p:Value}{k:Kd}{t:List UInt8}{bad:Bool}(h:K0 w b p k t bad W)(hb:b<w.heap.size)(hB:w.heap.size+2<=B)(v:Value):K0 w b p k t bad (W.setCell ⟨B,o,none⟩ v):=
 h.app hb (Ai W B o v) fun k e=>ez
theorem Yl(x:Vl × Value)(h:x.2.oneCell'=true):∀u∈Ps x,u.oneCell'=true:=by
 intro u hu;simp[Ps]at hu;rcases hu with rfl|rfl|rfl|rfl
 ·rfl
 ·rfl
 ·rfl
 exact h
section
attribute [local go_sem] Qra Qpu Qo3 Qmi ByteArray.mk_append_mk
theorem Qj7(b:Nat)(p:Value)(t:List UInt8)(sk:Value)(N:Nat)(k:Kd)(w:World)(h:Md w b p t false sk 13)(hl:t.length<=600):
  Calls prog 129 #[.pointer (some ⟨b,0,none⟩),Fi k] w (Pp w b p t sk 13 N none):=by
 have HS:=Aa h
 have hmf:∀(fn:Fn) (first cap:Array Value) (w:World),(Instr.makeFunc fn first cap).run prog w=.ok (.func fn first cap) w:=fun _ _ _ _=>rfl
 have c4:=h.c4
 have f4:=h.bk.live 4
 have f2:=h.bk.live 2
 have c2:=h.c2
 have hb0:=h.lt
 have n1:¬(b=w.heap.size):=by omega
 have n2:¬(b=w.heap.size+1):=by omega
 have n4:¬(b=w.heap.size+1+1):=by omega
 have l1:b<w.heap.size+1:=by omega
 have l2:b<w.heap.size+1+1:=by omega
 unfold Fi
 clear h
 go_enter_defers func129,ntmps129
 go_wp2_with fail
 have h1:=(HS.o.setDp 14).setBad true
 have F:=Ha.init0 (w:=w) (k:=k) (e:=13) h1 ((Ai w b 4 (.int .i64 14)).trans (Ai _ b 2 (.bool true))) (by simp) (T:=182) (U:=60) (V:=68)
 refine Ha.door0 (v:=Eu) (sl:=.slice none 0 0) F.1 F.2.1 hb0 (by decide) ?_ (Eb.nil _ _) rfl (by simp) (Al _) (fun _=>rfl) (by simp) rfl
 have:=Br ((((w.setCell ⟨b,4,none⟩ (.int .i64 14)).setCell ⟨b,2,none⟩ (.bool true)).alloc (.cells #[.pointer (some ⟨b,0,none⟩)] 182)).alloc (.cells #[.string ⟨k.signs.toArray⟩,.string ⟨k.base.toArray⟩,.string ⟨k.name.toArray⟩] 60)) [.int .u8 0,.string ⟨#[]⟩,.int .i64 0,.slice none 0 0] 68
 simpa [Ew,Eu,Vl.what,Vl.text,Vl.tag]using this
theorem Qp3(b:Nat)(p:Value)(t:List UInt8)(sk:Value)(e:Nat)(k:Kd)(w:World)(h:Md w b p t false sk e)(he:e<13)(hl:t.length<=600)(h0:e=0->sk=.slice none 0 0)(hs:k.signs=[])(hb:k.base=[102])(q:Option (Vl × List UInt8))
  (hq:q=match t with|[]=>none|x::r=>if x=0 then some (.mk 102 H7 0 [],r)else if x=1 then some (.mk 102 Dk 0 [],r)else none):
  Calls prog 129 #[.pointer (some ⟨b,0,none⟩),Fi k] w (Pp w b p t sk e 0 q):=by
 have HQ:=Aa (show q=if flB t=true then none else some (.mk 102 (if flX t then Dk else H7) 0 [],flR t)from by
  rw[hq]
  cases t with
  |nil=>rfl
  |cons c r=>
   simp only[flB,flX,flR,decide_eq_true_eq]
   by_cases h0:c=0
   ·subst h0;rfl
   by_cases h1:c=1
   ·subst h1;rfl
   rw[if_neg h0,if_neg h1,if_pos]
   have a:c.toNat≠0:=fun e=>h0 (UInt8.toNat_inj.1 e)
   have b:c.toNat≠1:=fun e=>h1 (UInt8.toNat_inj.1 e)
   omega)
 have Hfl:=Aa (fun W h=>Qaf b p t sk (e+1) W h (by omega))
 have hr1:(flR t).length<=t.length:=by cases t<;>simp[flR]
 generalize flR t=r at *
 generalize flB t=bd at *
 generalize flX t=x at *
 have HS:=Aa h
 have H0:=Aa h0
 obtain⟨hb0,c4,f4,c2,n1,n2,n3,l1,l2,ei,e13,hmf⟩:=h.facts he
 clear h hq h0
 rw[Qbj hs hb]
 unfold Fi
 simp only
 go_enter_defers func129,ntmps129
 go_wp2_with fail
 refine(Ey _ _ _).mono ?_
 rintro en w2 ⟨rfl,hb2⟩
 have F2:=Aa ((Ha.init (k:=⟨[],[102],k.name⟩) HS.o).post hb2)
 clear hb2 c2
 have k0:=F2.o.2.1
 have k1:=Ab F2.o.2.2.1 1 rfl
 simp only[Nat.zero_add]at k1
 go_wp2_with fail
 refine(Hfl.o _ F2.o.1.1).mono ?_
 rintro en w3 ⟨rfl,hs3⟩
 have F3:=Aa (F2.o.step hb0 hs3)
 clear hs3 k0 k1 Hfl
 have HQ:=HQ.o
 cases x with
 |true=>
  go_wp2_with ((with_reducible refine Ac (op:=⟨none,.store 68 _ _,_,_,_,none⟩) rfl 68 _ _ rfl (w.heap.size+1+1) 0 [.int .u8 102,.string ⟨#[121,101,115]⟩,.int .i64 0,.slice none 0 0] ?_ ?_ ?_ ?_ ?_ ?_);rfl;rfl;(exact F3.o.2.2.2.1);kernel_rfl;(simp[Value.oneCell']);intro w9 HS9)
  exact Ha.door (v:=.mk 102 Dk 0 []) (sl:=.slice none 0 0) F3.o hb0 (by omega) HS9.o (Eb.nil _ _) (by rw[HQ];cases bd<;>rfl) (by rw[HQ];cases bd<;>simp) (by omega) (fun _=>rfl) (fun e0 x _=>⟨none,0,H0.o e0⟩) rfl
 |false=>
  go_wp2_with ((with_reducible refine Ac (op:=⟨none,.store 68 _ _,_,_,_,none⟩) rfl 68 _ _ rfl (w.heap.size+1+1) 0 [.int .u8 102,.string ⟨#[110,111]⟩,.int .i64 0,.slice none 0 0] ?_ ?_ ?_ ?_ ?_ ?_);rfl;rfl;(exact F3.o.2.2.2.1);kernel_rfl;(simp[Value.oneCell']);intro w9 HS9)
  exact Ha.door (v:=.mk 102 H7 0 []) (sl:=.slice none 0 0) F3.o hb0 (by omega) HS9.o (Eb.nil _ _) (by rw[HQ];cases bd<;>rfl) (by rw[HQ];cases bd<;>simp) (by omega) (fun _=>rfl) (fun e0 x _=>⟨none,0,H0.o e0⟩) rfl
def Qaj(fs:List Fd):Nat->Nat->List UInt8->Nat
 |0,_,_=>0
 |m+1,last,s=>match Ag s with
  |none=>0
  |some (tag,r)=>if tag=0 then 0 else match Ed r with
   |none=>0
   |some (_,q)=>if tag<=last then 0 else(if (Ap fs tag).isSome then 0 else 1)+Qaj fs m tag q
def skN(S:List Ty)(k:Kd)(s:List UInt8):Nat:=if k.signs=[]/\k.base=[64]then(match B9 S k.name with|some t=>if t.sort=82 then Qaj t.fields 1000 0 s else 0|none=>0)else 0
theorem Tm{S:List Ty}{k:Kd}{c:UInt8}{g s:List UInt8}(h:k.signs=c::g):skN S k s=0:=if_neg fun e=>by rw[h]at e;cases e.1
theorem Nj{S:List Ty}{k:Kd}{s:List UInt8}(h:k.base≠[64]):skN S k s=0:=if_neg fun e=>h e.2
def IbV(w0:World)(p:Value)(S:List Ty)(d:Nat)(k:Kd):Prop:=
 ∀(b:Nat) (t:List UInt8) (sk:Value) (e:Nat) (w:World),Below w0.heap.size w0 w->w0.heap.size<=b->Md w b p t false sk e->e+d=13->t.length<=600->(e=0->sk=.slice none 0 0) ->
  Calls prog 129 #[.pointer (some ⟨b,0,none⟩),Fi k] w (Pp w b p t sk e (skN S k t) (E9 S d k t))
def RdB(t:List UInt8)(r:Option (Vl × List UInt8))(v:Vl)(t':List UInt8):Prop:=(∀x,r=some x->v=x.1/\t'=x.2)/\t'.length<=t.length
structure OpB(w:World)(b:Nat)(p:Value)(k:Kd)(t:List UInt8)(sk:Value)(e:Nat)(r:Option (Vl × List UInt8))(lp lc ls lb ld:Bool)(uc us ub:Value)(W:World):Prop where
 o1:lc=true->lp=true
 o2:ls=true->lc=true
 o3:ld=true->ls=true
 o4:lb=true->ls=true
 a:lc=false->Ha w b p k t false sk e W
 c:lc=true->ls=false->∃v sl t',uc=Gf v sl/\RdB t r v t'/\Ha w b p k t' r.isNone sk e W/\Eb (fun c=>w.heap.size+1+1<c) W sl v.kids
 s:ls=true->ld=false->∃v t',RdB t r v t'/\Ha w b p k t' r.isNone sk e W/\Eb (fun c=>w.heap.size+1+1<c) W us [v]
 f:lb=true->ub=.agg #[.int .u8 63,.string ⟨#[]⟩,.int .i64 0,us]
 d:ld=true->∃v t' W8,RdB t r v t'/\W=W8.setCells (w.heap.size+1+1) 0 (Ew (.mk 63 [] 0 [v]) us)/\Ha w b p k t' r.isNone sk e W8/\Eb (fun c=>w.heap.size+1+1<c) W8 us [v]
theorem Qmx(w0:World)(S:List Ty)(d:Nat)(b:Nat)(p:Value)(t:List UInt8)(sk:Value)(e:Nat)(k:Kd)(w:World)(hw:Below w0.heap.size w0 w)(hbw:w0.heap.size<=b)(h:Md w b p t false sk e)(he:e+(d+1)=13)(hl:t.length<=600)(h0:e=0->sk=.slice none 0 0)(sg:List UInt8)(hs:k.signs=63::sg)(hsl:sg.length<=100)
  (H:IbV w0 p S d k.part) (q:Option (Vl × List UInt8))
  (hq:q=match t with|[]=>none|x::r=>if x=0 then some (.mk 63 [] 0 [],r)else if x=1 then(E9 S d k.part r).map (fun y=>(.mk 63 [] 0 [y.1],y.2))else none):
  Calls prog 129 #[.pointer (some ⟨b,0,none⟩),Fi k] w (Pp w b p t sk e 0 q):=by
 have HQ:=Aa (show q=if flX t=true then(E9 S d k.part (flR t)).map (fun y=>(.mk 63 [] 0 [y.1],y.2))else if flB t=true then none else some (.mk 63 [] 0 [],flR t)from by
  rw[hq]
  cases t with
  |nil=>rfl
  |cons c r=>
   simp only[flB,flX,flR,decide_eq_true_eq]
   by_cases h0:c=0
   ·subst h0;rfl
   by_cases h1:c=1
   ·subst h1;rfl
   rw[if_neg h0,if_neg h1,if_neg h1,if_pos]
   have a:c.toNat≠0:=fun e=>h0 (UInt8.toNat_inj.1 e)
   have b:c.toNat≠1:=fun e=>h1 (UInt8.toNat_inj.1 e)
   omega)
 have Hfx:=Aa (show flX t=true->flB t=false from by
  cases t with
  |nil=>simp[flX]
  |cons c r=>simp only[flX,flB,decide_eq_true_eq];rintro rfl;decide)
 have Hfl:=Aa (fun W h=>Qaf b p t sk (e+1) W h (by omega))
 have hr1:(flR t).length<=t.length:=by cases t<;>simp[flR]
 have HP:=Aa (fun W=>Qw k W 63 sg hs (by omega))
 have HH:=Aa (fun W (hW:Below w0.heap.size w0 W) (h:Md W b p (flR t) false sk (e+1))=>H b (flR t) sk (e+1) W hW hbw h (by omega) (by omega) (by omega))
 generalize E9 S d k.part (flR t)=rr at *
 generalize skN S k.part (flR t)=nn at *
 generalize flR t=r at *
 generalize flB t=bd at *
 generalize flX t=x at *
 have HS:=Aa h
 have HW:=Aa hw
 have H0:=Aa h0
 have he13:e<13:=by omega
 obtain⟨hb0,c4,f4,c2,n1,n2,n3,l1,l2,ei,e13,hmf⟩:=h.facts he13
 have Hs:=Aa hs
 have HF0:=Aa (Ha.init (k:=k) HS.o (T:=182) (U:=60) (V:=68))
 generalize k.part=kp at *
 clear h hq h0 H hw hs
 unfold Fi at HP ⊢
 go_enter_defers func129,ntmps129
 go_wp2_with fail
 generalize hwg:World.alloc (World.alloc (World.alloc _ _) _) _=W0
 have F0:=Aa (show Ha w b p k t false sk e W0 from by rw[<-hwg];exact HF0.o)
 clear hwg HF0
 have HSg:=Aa (Je 63 sg (by omega) ⟨k.base.toArray⟩ ⟨k.name.toArray⟩ W0)
 rw[<-Hs.o]at HSg
 refine HSg.o.mono ?_
 rintro en w2 ⟨rfl,hb2⟩
 have F2:=Aa (F0.o.post hb2)
 clear hb2 c2 F0 HSg
 have k0:=F2.o.2.1
 go_wp2_with fail
 refine(Hfl.o _ F2.o.1.1).mono ?_
 rintro en w3 ⟨rfl,hs3⟩
 have F3:=Aa (F2.o.step hb0 hs3)
 clear hs3 k0 Hfl F2
 cases x with
 |false=>
  go_wp2_with ((with_reducible refine Ac (op:=⟨none,.store 68 _ _,_,_,_,none⟩) rfl 68 _ _ rfl (w.heap.size+1+1) 0 [.int .u8 63,.string ⟨#[]⟩,.int .i64 0,.slice none 0 0] ?_ ?_ ?_ ?_ ?_ ?_);rfl;rfl;(exact F3.o.2.2.2.1);kernel_rfl;(simp[Value.oneCell']);intro w9 HS9)
  have HQ:=HQ.o
  exact Ha.door (v:=.mk 63 [] 0 []) (sl:=.slice none 0 0) F3.o hb0 (by omega) HS9.o (Eb.nil _ _) (by rw[HQ];cases bd<;>rfl) (by rw[HQ];cases bd<;>simp) (by omega) (fun _=>rfl) (fun e0 x _=>⟨none,0,H0.o e0⟩) rfl
 |true=>
  obtain rfl:=Hfx.o rfl
  have HQ:=Aa (show q=rr.map (fun y=>(.mk 63 [] 0 [y.1],y.2))from HQ.o)
  go_wp2_with fail
  refine rgF (fun l u W=>OpB w b p k r sk e rr (l 2) (l 3) (l 4) (l 5) (l 6) (u 3) (u 4) (u 5) W) (fun _=>True) (fun _ _ _ _=>Ae) ⟨by simp,by simp,by simp,by simp,fun _=>F3.o.post (below_drewN (Aq _ _) 1),by simp,by simp,by simp,by simp⟩ ?_
  refine Ju (fun v=>v=.pointer (some ⟨b,0,none⟩)) (by
   intro l u W hl hp hF hG hi K hK
   have hc:=(hF.o.a (hi.o 3 (by rfl)).1).2.1
   clear hp hi hG
   go_simp
   exact hK _ _ _ rfl hF.o rfl) ?_
  refine Ju (fun v=>v=Fi k) (by
   intro l u W hl hp hF hG hi K hK
   have h3:l 3=false:=by cases h:l 3 with|false=>rfl|true=>exact absurd ((hF.o.o1 h).symm.trans (hi.o 2 (by rfl)).1) (by decide)
   have hA:=(hF.o.a h3).2.2.1
   have k0:=Ab hA 0 rfl
   have k1:=Ab hA 1 rfl
   have k2:=Ab hA 2 rfl
   simp only[Nat.zero_add]at k0 k1 k2
   clear hp hi hG hA
   go_simp
   exact hK (Fi k) _ _ rfl hF.o rfl) ?_
  refine Ju (fun v=>v=Fi kp) (by
   intro l u W hl hp hF hG hi K hK
   have h3:l 3=false:=(hi.o 3 (by rfl)).1
   have h4:l 4=false:=by cases h:l 4 with|false=>rfl|true=>exact absurd ((hF.o.o2 h).symm.trans h3) (by decide)
   have h6:l 6=false:=by cases h:l 6 with|false=>rfl|true=>exact absurd ((hF.o.o3 h).symm.trans h4) (by decide)
   have hA:=Aa (hF.o.a h3)
   have hff:=Aa hF.o.f
   have ho4:=hF.o.o4
   simp[Region.binds,Co]at hp
   unfold Fi at hp
   clear hi hG hF
   go_simp
   refine(HP.o W).mono ?_
   rintro en w' ⟨rfl,hb'⟩
   exact hK (Fi kp) _ _ rfl ⟨fun _=>rfl,fun h=>absurd (h4.symm.trans (by simpa using h)) (by decide),fun h=>absurd (h6.symm.trans (by simpa using h)) (by decide),ho4,fun _=>hA.o.post hb',fun h=>absurd (h3.symm.trans (by simpa using h)) (by decide),fun h=>absurd (h4.symm.trans (by simpa using h)) (by decide),hff.o,fun h=>absurd (h6.symm.trans (by simpa using h)) (by decide)⟩ (by simp[Act.put,hp];rfl)) ?_
  refine Ju (fun v=>∃x sl,v=Gf x sl) (by
   intro l u W hl hp hF hG hi K hK
   have h4:l 4=false:=(hi.o 4 (by rfl)).1
   have h6:l 6=false:=by cases h:l 6 with|false=>rfl|true=>exact absurd ((hF.o.o3 h).symm.trans h4) (by decide)
   have hA:=Aa (hF.o.a hl)
   have hff:=Aa hF.o.f
   have ho4:=hF.o.o4
   simp[Region.binds,Co]at hp
   have hp2:l 2=true:=by simp[hp]
   clear hi hG hF
   go_simp
   refine(HH.o W (hA.o.1.env HW.o hbw) hA.o.1.1).mono ?_
   rintro en w' ⟨v,sl,t',sk',rfl,hv,hs',hx,hl',hsk,_⟩
   obtain rfl:=hsk (by omega)
   exact hK (Gf v sl) _ _ ⟨v,sl,rfl⟩ ⟨fun _=>hp2,fun _=>rfl,fun h=>absurd (h6.symm.trans (by simpa using h)) (by decide),ho4,fun h=>by simp at h,fun _ _=>⟨v,sl,t',rfl,⟨hx,hl'⟩,hA.o.step hb0 hs',hv.mono fun c hc _=>by have:=hA.o.2.2.2.2;omega⟩,fun h=>absurd (h4.symm.trans (by simpa using h)) (by decide),hff.o,fun h=>absurd (h6.symm.trans (by simpa using h)) (by decide)⟩ (by simp[Act.put,hp])) ?_
  refine Ju (fun v=>∃g,v=.slice (some ⟨g,0,none⟩) 1 1) (by
   intro l u W hl hp hF hG hi K hK
   have h5:l 5=false:=(hi.o 5 (by rfl)).1
   have h6:l 6=false:=by cases h:l 6 with|false=>rfl|true=>exact absurd ((hF.o.o3 h).symm.trans hl) (by decide)
   have h3:l 3=true:=(hp ⟨3,.data⟩ (by simp) rfl).1
   obtain⟨v,sl,t',e3,hrd,hFr,hiv⟩:=hF.o.c h3 hl
   have ho1:=hF.o.o1
   obtain⟨A7,c7,rfl⟩:=hiv.form
   have hq:=Aa hiv
   have hFr:=Aa hFr
   unfold Gf at e3
   clear hi hG hF hp hiv
   go_simp
   exact hK (.slice (some ⟨W.heap.size,0,none⟩) 1 1) _ _ ⟨_,rfl⟩ ⟨ho1,fun _=>h3,fun h=>absurd (h6.symm.trans (by simpa using h)) (by decide),fun _=>rfl,fun h=>absurd (h3.symm.trans (by simpa using h)) (by decide),fun _ h=>by simp at h,fun _ _=>⟨v,t',hrd,hFr.o.post ((Aq _ _).alloc (Al _) _),hq.o.one (fun c hc _=>hc) hFr.o.2.2.2.2⟩,fun h=>absurd (h5.symm.trans (by simpa using h)) (by decide),fun h=>absurd (h6.symm.trans (by simpa using h)) (by decide)⟩ (by simp[Act.put,e3])) ?_
  refine Ju (fun v=>∃g,v=.agg #[.int .u8 63,.string ⟨#[]⟩,.int .i64 0,.slice (some ⟨g,0,none⟩) 1 1]) (by
   intro l u W hl hp hF hG hi K hK
   have h6:l 6=false:=(hi.o 6 (by rfl)).1
   simp[Region.binds,Co]at hp
   obtain⟨h4,g,e4⟩:=hp
   have hR:=hF.o
   have h3:=hR.o2 h4
   clear hi hG
   go_simp
   exact hK (.agg #[.int .u8 63,.string ⟨#[]⟩,.int .i64 0,.slice (some ⟨g,0,none⟩) 1 1]) _ _ ⟨g,rfl⟩ ⟨hR.o1,hR.o2,hR.o3,fun _=>h4,hR.a,hR.c,hR.s,fun _=>by rw[show (fun j=>if j=5 then Value.agg #[.int .u8 63,.string ⟨#[]⟩,.int .i64 0,.slice (some ⟨g,0,none⟩) 1 1]else u j) 4=u 4 from rfl,e4];rfl,hR.d⟩ (by simp[Act.put,e4])) ?_
  refine Ju (fun _=>True) (by
   intro l u W hl hp hF hG hi K hK
   simp[Region.binds,Co]at hp
   have hR:=hF.o
   obtain⟨⟨h5,g,e5⟩,_⟩:=hp
   have h4:=hR.o4 h5
   have h3:=hR.o2 h4
   have e4:=hR.f h5
   obtain⟨v,t',hrd,hFr,hiv⟩:=hR.s h4 hl
   have e6:u 5=.agg (Ew (.mk 63 [] 0 [v]) (u 4)).toArray:=e4
   have e7:u 4=.slice (some ⟨g,0,none⟩) 1 1:=by rw[e5]at e4;simpa using e4.symm
   simp only[Region.wanted,if_true]
   refine wp_store_mid 68 _ _ rfl (w.heap.size+1+1) 0 (Ew (.mk 63 [] 0 [v]) (u 4)).toArray rfl (by simp[e6];rfl) hFr.2.2.2.1 (by kernel_rfl) (by simp[Ew,e7,Value.oneCell']) ?_
   exact hK undef _ _ Ae ⟨hR.o1,hR.o2,fun _=>h4,hR.o4,fun h=>absurd (h3.symm.trans (by simpa using h)) (by decide),fun _ h=>absurd (h4.symm.trans (by simpa using h)) (by decide),fun _ h=>by simp at h,hR.f,fun _=>⟨v,t',W,hrd,rfl,hFr,hiv⟩⟩ rfl) ?_
  intro l u W hl _ hR
  obtain⟨v,t',W8,hrd,HS9,hFr,hiv⟩:=hR.d (hl 6 (by decide))
  clear hl hR
  have HR:=Aa hrd
  have F8:=Aa hFr
  have HI:=Aa hiv
  have HS9:=Aa HS9
  clear hrd hFr hiv
  go_wp2_with fail
  have HQ:=HQ.o
  exact Ha.door (v:=.mk 63 [] 0 [v]) (sl:=u 4) F8.o hb0 (by omega) HS9.o (HI.o.mono fun c hc _=>⟨by omega,by omega⟩) (by rw[HQ];cases rr<;>rfl) (by rw[HQ];intro x hx;cases rr with|none=>cases hx|some y=>injection hx with hx;subst hx;obtain⟨e1,e2⟩:=HR.o.1 y rfl;exact⟨by rw[e1],e2⟩) (by have:=HR.o.2;omega) (fun _=>rfl) (fun e0 x _=>⟨none,0,H0.o e0⟩) rfl
theorem Ha.app{w W W':World}{b e:Nat}{p sk:Value}{k:Kd}{t:List UInt8}{bad:Bool}{row:Option Nat}(h:Ha w b p k t bad sk e W)(hb:b<w.heap.size)(hg:W.grownBy W' row)(hr:∀k,row=some k->w.heap.size+1+1<k):Ha w b p k t bad sk e W':=by
 have hn:∀c,c<=w.heap.size+1+1->some c≠row:=fun c hc e=>by have:=hr c e.symm;omega
 obtain⟨⟨h1,hg0⟩,k1,k2,k3,k4⟩:=h
 refine⟨⟨h1.block hg.size (hg.block b h1.lt (hn b (by omega))),⟨hg.os.trans hg0.os,hg.tape.trans hg0.tape,hg.output.trans hg0.output,Nat.le_trans hg0.size hg.size,fun c hc hne=>(hg.block c (Nat.lt_of_lt_of_le hc hg0.size) (hn c (by omega))).trans (hg0.block c hc hne)⟩⟩,hg.cell k1 (hn w.heap.size (by omega)),Ee k2 hg (hn _ (by omega)),Dn k3 hg k4 (hn _ (by omega)),Nat.lt_of_lt_of_le k4 hg.size⟩
structure Tu(w:World)(b B:Nat)(p:Value)(k:Kd)(h0 h1 h2 rv:Value)(xs:List (Vl × Value))(tt:List UInt8)(sk:Value)(e:Nat)(r:Option (Vl × List UInt8))(lp lc ls la ld:Bool)(uc us ua:Value)(W:World):Prop where
 o1:lc=true->lp=true
 o2:ls=true->lc=true
 o3:la=true->ls=true
 o4:ld=true->la=true
 a:lc=false->Ha w b p k tt false sk e W
 kk:la=false->Sj (B+1) B W h0 h1 h2 rv rv xs
 c:lc=true->ls=false->∃v sl t',uc=Gf v sl/\RdB tt r v t'/\Ha w b p k t' r.isNone sk e W/\Eb (fun c=>B+1<=c/\rv.ownBlock≠some c) W sl v.kids
 s:ls=true->la=false->∃v sl t' W7,RdB tt r v t'/\W=W7.alloc (.cells (Ps (v,sl)).toArray 68)/\us=.slice (some ⟨W7.heap.size,0,none⟩) 1 1/\Sj (B+1) B W7 h0 h1 h2 rv rv xs/\Ha w b p k t' r.isNone sk e W7/\Eb (fun c=>B+1<=c/\rv.ownBlock≠some c) W7 sl v.kids
 d1:la=true->ld=false->∃v sl t' A n c,RdB tt r v t'/\ua=.slice A n c/\Ha w b p k t' r.isNone sk e W/\Sj (B+1) B W h0 h1 h2 rv ua (xs++[(v,sl)])
 d2:ld=true->∃v sl t' A n c,RdB tt r v t'/\ua=.slice A n c/\Ha w b p k t' r.isNone sk e W/\Sj (B+1) B W h0 h1 h2 ua ua (xs++[(v,sl)])
section
variable {w:World} {b B:Nat} {p:Value} {k:Kd} {h0 h1 h2 rv:Value} {xs:List (Vl × Value)} {tt:List UInt8} {sk:Value} {e:Nat} {r:Option (Vl × List UInt8)} {lp lc ls la ld:Bool} {uc us ua:Value} {W:World}
theorem Tu.nc(h:Tu w b B p k h0 h1 h2 rv xs tt sk e r lp lc ls la ld uc us ua W)(hl:lp=false):lc=false:=by cases q:lc with|false=>rfl|true=>exact absurd ((h.o1 q).symm.trans hl) (by decide)
theorem Tu.ns(h:Tu w b B p k h0 h1 h2 rv xs tt sk e r lp lc ls la ld uc us ua W)(hl:lc=false):ls=false:=by cases q:ls with|false=>rfl|true=>exact absurd ((h.o2 q).symm.trans hl) (by decide)
theorem Tu.na(h:Tu w b B p k h0 h1 h2 rv xs tt sk e r lp lc ls la ld uc us ua W)(hl:ls=false):la=false:=by cases q:la with|false=>rfl|true=>exact absurd ((h.o3 q).symm.trans hl) (by decide)
theorem Tu.nd(h:Tu w b B p k h0 h1 h2 rv xs tt sk e r lp lc ls la ld uc us ua W)(hl:la=false):ld=false:=by cases q:ld with|false=>rfl|true=>exact absurd ((h.o4 q).symm.trans hl) (by decide)
theorem Tu.start(F:Ha w b p k tt false sk e W)(K:Sj (B+1) B W h0 h1 h2 rv rv xs):Tu w b B p k h0 h1 h2 rv xs tt sk e r false false false false false uc us ua W.drew:=
 ⟨by simp,by simp,by simp,by simp,fun _=>F.post (below_drewN (Aq _ _) 1),fun _=>K.after (below_drewN (Aq _ _) 1),by simp,by simp,by simp,by simp⟩
theorem Tu.part{W':World}(h:Tu w b B p k h0 h1 h2 rv xs tt sk e r lp lc ls la ld uc us ua W)(hl:lc=false)(hb:Below W.heap.size W W'):Tu w b B p k h0 h1 h2 rv xs tt sk e r true lc ls la ld uc us ua W':=by
 have e1:=h.ns hl
 have e2:=h.na e1
 have e3:=h.nd e2
 refine⟨fun _=>rfl,h.o2,h.o3,h.o4,fun q=>(h.a q).post hb,fun q=>(h.kk q).after hb,fun q=>absurd (hl.symm.trans q) (by decide),fun q=>absurd (e1.symm.trans q) (by decide),fun q=>absurd (e2.symm.trans q) (by decide),fun q=>absurd (e3.symm.trans q) (by decide)⟩
theorem Tu.call{W':World}{v:Vl}{sl:Value}{t':List UInt8}(h:Tu w b B p k h0 h1 h2 rv xs tt sk e r lp lc ls la ld uc us ua W)(hlp:lp=true)(hl:lc=false)(hb:b<w.heap.size)(hB:w.heap.size+1+1<B)(hrd:RdB tt r v t')(hs:Q5 W b p t' r.isNone sk (e+1) W')
  (hv:Eb (fun c=>W.heap.size<=c) W' sl v.kids):Tu w b B p k h0 h1 h2 rv xs tt sk e r lp true ls la ld (Gf v sl) us ua W':=by
 have e1:=h.ns hl
 have e2:=h.na e1
 have e3:=h.nd e2
 have hK:=h.kk e2
 exact⟨fun _=>hlp,fun _=>rfl,h.o3,h.o4,(fun q=>absurd q (by decide)),fun q=>(h.kk q).step hs.2 (by omega) (by omega),fun _ _=>⟨v,sl,t',rfl,hrd,(h.a hl).step hb hs,hv.mono fun c hc _=>⟨by have:=hK.bs;omega,fun e=>by have:=(hK.row.lt c e).2;omega⟩⟩,fun q=>absurd (e1.symm.trans q) (by decide),fun q=>absurd (e2.symm.trans q) (by decide),fun q=>absurd (e3.symm.trans q) (by decide)⟩
theorem Tu.build{v:Vl}{sl:Value}{t':List UInt8}(h:Tu w b B p k h0 h1 h2 rv xs tt sk e r lp lc ls la ld uc us ua W)(hc:lc=true)(hl:ls=false)(hrd:RdB tt r v t')(hF:Ha w b p k t' r.isNone sk e W)(hv:Eb (fun c=>B+1<=c/\rv.ownBlock≠some c) W sl v.kids):
  Tu w b B p k h0 h1 h2 rv xs tt sk e r lp lc true la ld uc (.slice (some ⟨W.heap.size,0,none⟩) 1 1) ua (W.alloc (.cells (Ps (v,sl)).toArray 68)):=by
 have e2:=h.na hl
 have e3:=h.nd e2
 exact⟨h.o1,fun _=>hc,fun _=>rfl,h.o4,fun q=>absurd (hc.symm.trans q) (by decide),fun q=>(h.kk q).after ((Aq _ _).alloc (Al _) _),fun _ q=>absurd q (by decide),fun _ _=>⟨v,sl,t',W,hrd,rfl,rfl,h.kk e2,hF,hv⟩,fun q=>absurd (e2.symm.trans q) (by decide),fun q=>absurd (e3.symm.trans q) (by decide)⟩
theorem Tu.appd{W':World}{v:Vl}{sl:Value}{t':List UInt8}{A:Option Addr}{n c:Nat}(h:Tu w b B p k h0 h1 h2 rv xs tt sk e r lp lc ls la ld uc us ua W)(hs:ls=true)(hl:la=false)(hrd:RdB tt r v t')(hF:Ha w b p k t' r.isNone sk e W')(hK:Sj (B+1) B W' h0 h1 h2 rv (.slice A n c) (xs++[(v,sl)])):
  Tu w b B p k h0 h1 h2 rv xs tt sk e r lp lc ls true ld uc us (.slice A n c) W':=by
 have e3:=h.nd hl
 have hc:=h.o2 hs
 exact⟨h.o1,h.o2,fun _=>hs,fun _=>rfl,fun q=>absurd (hc.symm.trans q) (by decide),fun q=>absurd q (by decide),fun _ q=>absurd (hs.symm.trans q) (by decide),fun _ q=>absurd q (by decide),fun _ _=>⟨v,sl,t',A,n,c,hrd,rfl,hF,hK⟩,fun q=>absurd (e3.symm.trans q) (by decide)⟩
theorem Tu.store(h:Tu w b B p k h0 h1 h2 rv xs tt sk e r lp lc ls la ld uc us ua W)(ha:la=true)(hl:ld=false)(hb:b<w.heap.size)(hB:w.heap.size+1+1<B):Tu w b B p k h0 h1 h2 rv xs tt sk e r lp lc ls la true uc us ua (W.setCell ⟨B,3,none⟩ ua):=by
 obtain⟨v,sl,t',A,n,c,hrd,e,hF,hK⟩:=h.d1 ha hl
 have hs:=h.o3 ha
 have hc:=h.o2 hs
 exact⟨h.o1,h.o2,h.o3,fun _=>ha,fun q=>absurd (hc.symm.trans q) (by decide),fun q=>absurd (ha.symm.trans q) (by decide),fun _ q=>absurd (hs.symm.trans q) (by decide),fun _ q=>absurd (ha.symm.trans q) (by decide),fun _ q=>absurd q (by decide),fun _=>⟨v,sl,t',A,n,c,hrd,e,hF.app hb (Ai W B 3 ua) (fun k e=>by injection e with e;omega),hK.store⟩⟩
end
def LQ(K:List UInt8->Option (Vl × List UInt8))(nn:Nat)(q:Option (Vl × List UInt8))(vs:List Vl)(tt:List UInt8)(bb:Bool):Prop:=
 (bb=true->q=none)/\(bb=false->vs.length<=nn/\q=(Df K (nn - vs.length) tt).map fun y=>(.mk 91 [] 0 (vs++y.1),y.2))
theorem LQ.step{K:List UInt8->Option (Vl × List UInt8)}{nn:Nat}{q:Option (Vl × List UInt8)}{vs:List Vl}{tt:List UInt8}(h:LQ K nn q vs tt false)(hlt:vs.length<nn){v:Vl}{t':List UInt8}(hr:RdB tt (K tt) v t'):LQ K nn q (vs++[v]) t' (K tt).isNone:=by
 obtain⟨h1,h2⟩:=h.2 rfl
 have e:nn - vs.length=(nn - (vs.length+1))+1:=by omega
 rw[e]at h2
 unfold Df at h2
 cases hk:K tt with
 |none=>rw[hk]at h2;exact⟨fun _=>h2,fun h=>by simp at h⟩
 |some y=>
  obtain⟨v',r'⟩:=y
  obtain⟨e1,e2⟩:=hr.1 _ hk
  simp only at e1 e2
  subst e1 e2
  rw[hk]at h2
  simp only at h2
  refine⟨fun h=>by simp at h,fun _=>⟨by simp;omega,?_⟩⟩
  rw[h2,List.length_append,List.length_singleton]
  cases Df K (nn - (vs.length+1)) t' with
  |none=>rfl
  |some z=>simp
theorem LQ.fin{K:List UInt8->Option (Vl × List UInt8)}{nn:Nat}{q:Option (Vl × List UInt8)}{vs:List Vl}{tt:List UInt8}{bb:Bool}(h:LQ K nn q vs tt bb)(hb:bb=true\/nn<=vs.length):bb=q.isNone/\∀x,q=some x->Vl.mk 91 [] 0 vs=x.1/\tt=x.2:=by
 cases bb with
 |true=>rw[h.1 rfl];simp
 |false=>
  obtain⟨h1,h2⟩:=h.2 rfl
  have e:nn - vs.length=0:=by have:=hb.resolve_left (by decide);omega
  rw[h2,e]
  simp[Df]
theorem Qoc{pp:Prop}(h:pp:=by
  have d0:=K.o.c0
  have d1:=K.o.c1
  have d2:=K.o.c2
  have d3:=K.o.c3
  go_wp2_with ((with_reducible refine Ac (op:=⟨none,.store 68 _ _,_,_,_,none⟩) rfl 68 _ _ rfl (w.heap.size+1+1) 0 [.int .u8 91,.string ⟨#[]⟩,.int .i64 0,.slice A xs.length c] ?_ ?_ ?_ ?_ ?_ ?_);rfl;rfl;(exact F.o.2.2.2.1);kernel_rfl;(simp[Value.oneCell']);intro w9 HS9)
  have e7:(Av xs).length=xs.length:=by simp[Av]
  exact Ha.door (v:=.mk 91 [] 0 (Av xs)) (sl:=.slice A xs.length c) F.o hb0 (by omega) HS9.o ((K.o.done (by omega)).mono fun c hc _=>⟨by omega,by omega⟩) E.o.1 E.o.2 (by omega) (fun _=>rfl) (fun e0 x _=>⟨none,0,H0.o e0⟩) rfl):pp:=h
theorem Qk5{pp:Prop}(h:pp:=by
  go_loopw [7] (fun i wr=>∃(xs:List (Vl × Value)) (A:Option Addr) (c:Nat) (tt:List UInt8) (bb:Bool),i=.int .i64 (xs.length:Int)/\xs.length<=20/\tt.length<=r0.length/\Hid (Ha w b p k tt bb sk e wr)/\Hid (Sj (B+1) B wr (.int .u8 91) (.string ⟨#[]⟩) (.int .i64 0) (.slice A xs.length c) (.slice A xs.length c) xs)/\Hid (LQ KK nn q (Av xs) tt bb)/\Hid (bb=false->nn<=20)) (fun i _=>nn - (intOf i).toNat)
  case atStart=>exact⟨[],none,0,r0,bb,rfl,by simp,Al _,F4.o,K4.o,HLQ.o,Hnn.o⟩
  case round=>
   obtain⟨xs,A,c,tt,bb,rfl,hx20,htl,F,K,hI,Hnn⟩:=hrel
   have k0:=F.o.2.1
   have s2:=F.o.1.1.c2
   have m1:(0:Int)<=(xs.length:Int):=by omega
   have e7:(Av xs).length=xs.length:=by simp[Av]
   by_cases hlt:xs.length<nn
   ·have m2:(xs.length:Int)<(nn:Int):=by omega
    cases bb with
    |true=>
     have E:=Aa (hI.o.fin (.inl rfl))
     clear e7
     exact Qoc
    |false=>
     have hn20:=Hnn.o rfl
     have Hst:=Aa (fun v t' (h:RdB tt (KK tt) v t')=>hI.o.step (by rw[e7];exact hlt) h)
     have HHt:=Aa (HH.o tt (by omega))
     clear e7
     go_wp2_with fail
     clear k0 s2 m2
     refine rgF (fun l u W=>Tu w b B p k (.int .u8 91) (.string ⟨#[]⟩) (.int .i64 0) (.slice A xs.length c) xs tt sk e (KK tt) (l 4) (l 5) (l 6) (l 7) (l 9) (u 5) (u 6) (u 7) W) (fun _=>True) (fun _ _ _ _=>Ae) (Tu.start F.o K.o) ?_
     refine sq ?_
     refine Ju (fun v=>v=.slice A xs.length c) (by
      intro l u W hl hp hF hG hi K hK
      have c3:=(hF.o.kk (hi.o 7 (by rfl)).1).c3
      simp[Region.binds,Co]at hp
      clear hi hG
      go_simp
      exact hK (.slice A xs.length c) _ _ rfl hF.o (by simp[Act.put,hp])) ?_
     refine Ju (fun v=>v=.pointer (some ⟨b,0,none⟩)) (by
      intro l u W hl hp hF hG hi K hK
      have hc:=(hF.o.a (hi.o 5 (by rfl)).1).2.1
      clear hp hi hG
      go_simp
      exact hK _ _ _ rfl hF.o rfl) ?_
     refine Ju (fun v=>v=Fi k) (by
      intro l u W hl hp hF hG hi K hK
      have hA:=(hF.o.a (hF.o.nc (hi.o 4 (by rfl)).1)).2.2.1
      have k0:=Ab hA 0 rfl
      have k1:=Ab hA 1 rfl
      have k2:=Ab hA 2 rfl
      simp only[Nat.zero_add]at k0 k1 k2
      clear hp hi hG hA
      go_simp
      exact hK (Fi k) _ _ rfl hF.o rfl) ?_
     refine Ju (fun v=>v=Fi kp) (by
      intro l u W hl hp hF hG hi K hK
      have h5:l 5=false:=(hi.o 5 (by rfl)).1
      have hR:=Aa hF.o
      simp[Region.binds,Co]at hp
      unfold Fi at hp
      clear hi hG hF
      go_simp
      refine(HP.o W).mono ?_
      rintro en w' ⟨rfl,hb'⟩
      exact hK (Fi kp) _ _ rfl (hR.o.part h5 hb') (by simp[Act.put,hp];rfl)) ?_
     refine Ju (fun v=>∃x sl,v=Gf x sl) (by
      intro l u W hl hp hF hG hi K hK
      have hR:=Aa hF.o
      have hA:=hF.o.a hl
      have HC:=Aa (HHt.o W (hA.1.env HW.o hbw) hA.1.1)
      simp[Region.binds,Co]at hp
      have hp2:l 4=true:=by simp[hp]
      clear hi hG hF hA
      go_simp
      refine HC.o.mono ?_
      rintro en w' ⟨v,sl,t',sk',rfl,hv,hs',hx,hl',hsk,_⟩
      obtain rfl:=hsk (by omega)
      exact hK (Gf v sl) _ _ ⟨v,sl,rfl⟩ (hR.o.call hp2 hl hb0 hBw ⟨hx,hl'⟩ hs' hv) (by simp[Act.put,hp])) ?_
     refine Ju (fun v=>∃g,v=.slice (some ⟨g,0,none⟩) 1 1) (by
      intro l u W hl hp hF hG hi K hK
      have h5:l 5=true:=(hp ⟨5,.data⟩ (by simp) rfl).1
      obtain⟨v,sl,t',e5,hrd,hFr,hiv⟩:=hF.o.c h5 hl
      obtain⟨A7,c7,rfl⟩:=hiv.form
      have hR:=Aa (hF.o.build h5 hl hrd hFr hiv)
      unfold Gf at e5
      clear hi hG hF hp hiv hFr hrd
      go_simp
      exact hK (.slice (some ⟨W.heap.size,0,none⟩) 1 1) _ _ ⟨_,rfl⟩ hR.o (by simp[Act.put,e5])) ?_
     refine Ju (fun v=>∃A n c,v=.slice A n c) (by
      intro l u W hl hp hF hG hi K hK
      have uv:u 1=.slice A xs.length c:=(hp ⟨1,.data⟩ (by simp) rfl).2
      have h6:l 6=true:=(hp ⟨6,.data⟩ (by simp) rfl).1
      have hR:=Aa hF.o
      obtain⟨v,sl,t',W7,hrd,rfl,u6,hK7,hF7,hk7⟩:=hF.o.s h6 hl
      obtain⟨A7,c7,e7⟩:=hk7.form
      have hlen7:=hK7.row
      rw[if_pos (by rfl)]
      refine Ml W7 (.tmp 60) (.tmp 65) 66 rfl (B+1) 68 (.agg #[.int .u8 0,.string ⟨#[]⟩,.int .i64 0,.slice none 0 0]) 4 56 underlying66 Yn rfl (by decide) (Ps (v,sl)) rfl (Yl _ (by rw[e7];rfl)) (.slice A xs.length c) xs.length (xs.flatMap Ps) uv u6 hK7.row (by unfold maxLen;omega) (by omega) hK7.bs ?_
      intro v' w' hown hg hwh
      obtain⟨A5',n5',c5',rfl⟩:=Jy hown
      have hKa:=hK7.app (x:=(v,sl)) hk7 hown hg hwh
      have hFa:=hF7.app hb0 hg (fun c e=>by have:=(hK7.row.lt c e).1;omega)
      exact hK _ _ _ ⟨A5',n5',c5',rfl⟩ (hR.o.appd h6 hl hrd hFa hKa) rfl) ?_
     refine sq ?_
     refine Ju (fun _=>True) (by
      intro l u W hl hp hF hG hi K hK
      have h7:l 7=true:=(hp ⟨7,.data⟩ (by simp) rfl).1
      have hR:=Aa (hF.o.store h7 hl hb0 hBw)
      obtain⟨v,sl,t',A',n',c',hrd,u7,hFr,hKa⟩:=hF.o.d1 h7 hl
      have hcell:=hKa.c3
      have hfz:=hKa.bk.live 3
      simp[Region.binds,Co]at hp
      have e9:W.setCell ⟨B,3,none⟩ (u 7)=W.setCell ⟨B,3,none⟩ (.slice A' n' c'):=by rw[u7]
      rw[e9]at hR
      clear hi hG hF hrd hFr hKa e9
      go_simp
      exact hK undef _ _ Ae hR.o (by simp[Act.put,u7,hp])) ?_
     intro l u W hll _ hR
     obtain⟨v,sl,t',A',n',c',hrd,u7,hFr,hKa⟩:=hR.d2 (hll 9 (by decide))
     have hln:=Jl (by rw[u7]at hKa;exact hKa.row)
     have K9:=Aa (by rw[u7]at hKa;exact hKa)
     have F9:=Aa hFr
     have L9:=Aa (Hst.o v t' hrd)
     have ht9:=hrd.2
     subst hln
     clear hll hR hrd u7 hFr hKa
     go_wp2_with fail
     go_roundw
     case rel=>exact⟨xs++[(v,sl)],A',c',t',(KK tt).isNone,by simp,by simp<;>omega,by omega,F9.o,K9.o,Aa (by have:=L9.o;simpa [Av]using this),fun _=>hn20⟩
     case measure=>simp[intOf]<;>omega
   ·have m2:¬(xs.length:Int)<(nn:Int):=by omega
    have E:=Aa (hI.o.fin (.inr (by rw[e7];omega)))
    clear e7
    exact Qoc):pp:=h
theorem Qnf(w0:World)(S:List Ty)(d:Nat)(b:Nat)(p:Value)(t:List UInt8)(sk:Value)(e:Nat)(k:Kd)(w:World)(hw:Below w0.heap.size w0 w)(hbw:w0.heap.size<=b)(h:Md w b p t false sk e)(he:e+(d+1)=13)(hl:t.length<=600)(h0:e=0->sk=.slice none 0 0)(sg:List UInt8)(hs:k.signs=91::sg)(hsl:sg.length<=100)
  (H:IbV w0 p S d k.part) (q:Option (Vl × List UInt8))
  (hq:q=match Ag t with|none=>none|some (n,r)=>if 20<n then none else(Df (E9 S d k.part) n r).map fun y=>(.mk 91 [] 0 y.1,y.2)):
  Calls prog 129 #[.pointer (some ⟨b,0,none⟩),Fi k] w (Pp w b p t sk e 0 q):=by
 have hn1:=Nz t
 have hn2:=Qf t
 have Hnum:=Aa (fun W h=>Jf b p t false sk (e+1) W h (by omega))
 rw[Mv t]at hq
 simp only[Bool.false_or]at Hnum
 have HP:=Aa (fun W=>Qw k W 91 sg hs (by omega))
 have HH:=Aa (fun(tt:List UInt8) (ht:tt.length<=600) W (hW:Below w0.heap.size w0 W) (h:Md W b p tt false sk (e+1))=>H b tt sk (e+1) W hW hbw h (by omega) ht (by omega))
 generalize (Ag t).isNone=b0 at *
 generalize Ds t=r0 at *
 generalize Gn t=nn at *
 generalize E9 S d k.part=KK at *
 have HLQ:=Aa (show LQ KK nn q [] r0 (b0 || decide (20<nn))from by
  rw[hq]
  cases b0 with
  |true=>exact⟨fun _=>rfl,fun h=>by simp at h⟩
  |false=>
   by_cases h20:20<nn
   ·exact⟨fun _=>by simp[h20],fun h=>by simp[h20]at h⟩
   exact⟨fun h=>by simp[h20]at h,fun _=>⟨Nat.zero_le _,by simp[h20]⟩⟩)
 have HS:=Aa h
 have HW:=Aa hw
 have H0:=Aa h0
 have he13:e<13:=by omega
 obtain⟨hb0,c4,f4,c2,n1,n2,n3,l1,l2,ei,e13,hmf⟩:=h.facts he13
 have Hs:=Aa hs
 have HF0:=Aa (Ha.init (k:=k) HS.o (T:=182) (U:=60) (V:=68))
 generalize hkp:k.part=kp at *
 clear h hq h0 H hw hs hkp
 unfold Fi at HP ⊢
 go_enter_defers func129,ntmps129
 go_wp2_with fail
 generalize hwg:World.alloc (World.alloc (World.alloc _ _) _) _=W0
 have F0:=Aa (show Ha w b p k t false sk e W0 from by rw[<-hwg];exact HF0.o)
 clear hwg HF0
 have HSg:=Aa (Je 91 sg (by omega) ⟨k.base.toArray⟩ ⟨k.name.toArray⟩ W0)
 rw[<-Hs.o]at HSg
 refine HSg.o.mono ?_
 rintro en w2 ⟨rfl,hb2⟩
 have F2:=Aa (F0.o.post hb2)
 clear hb2 c2 F0 HSg
 have k0:=F2.o.2.1
 go_wp2_with fail
 refine(Hnum.o _ F2.o.1.1).mono ?_
 rintro en w3 ⟨rfl,hs3⟩
 have F3:=Aa (F2.o.step hb0 hs3)
 clear hs3 k0 Hnum F2
 have k0:=F3.o.2.1
 have s2:=F3.o.1.1.c2
 have sf:=F3.o.1.1.bk.live 2
 have sl:=F3.o.1.1.lt
 have bz:=F3.o.2.2.2.2
 have nb:¬(b=w3.heap.size):=by omega
 have bz1:w.heap.size<w3.heap.size:=by omega
 have nz:¬(w.heap.size=w3.heap.size):=by omega
 obtain⟨B,hB⟩:∃B,B=w3.heap.size:=⟨_,rfl⟩
 have hBw:w.heap.size+1+1<B:=by omega
 have hN:=Aa (fun(W:World) (hz:W.heap.size=B) (W4:World) (h:W.alloc (.cells #[.int .u8 91,.string ⟨#[]⟩,.int .i64 0,.slice none 0 0] 68)=W4)=>(show Below W.heap.size W W4/\Sj (B+1) B W4 (.int .u8 91) (.string ⟨#[]⟩) (.int .i64 0) (.slice none 0 0) (.slice none 0 0) []from by
  subst h
  have hbk:=Qk.new W #[.int .u8 91,.string ⟨#[]⟩,.int .i64 0,.slice none 0 0] 68
  rw[hz]at hbk
  exact⟨(Aq _ _).alloc (Al _) _,by simp;omega,by simp;omega,by omega,hbk,by rw[<-hz];simp[go_sem],by rw[<-hz];simp[go_sem],by rw[<-hz];simp[go_sem],by rw[<-hz];simp[go_sem],World.ownsRow_nil _ _ _ _,by simp⟩))
 have F3b:=Aa (F3.o.bad hb0)
 by_cases h20:20<nn
 rotate_left
 ·have t20:¬(20:Int)<(nn:Int):=by omega
  have hbb:(b0 || decide (20<nn))=b0:=by simp[h20]
  have Hnn:=Aa (show b0=false->nn<=20 from fun _=>by omega)
  rw[hbb]at HLQ
  clear h20 hbb
  go_wp2_with fail
  generalize hwg:World.alloc _ _=W4
  obtain⟨hb4,hk4⟩:=hN.o w3 hB.symm W4 hwg
  have F4:=Aa (F3.o.post hb4)
  have K4:=Aa hk4
  rw[<-hB]
  clear hb4 hk4 hwg hB k0 s2 sf sl bz nb bz1 nz F3 F3b hN t20
  generalize b0=bb at HLQ F4 Hnn
  exact Qk5
 have t20:(20:Int)<(nn:Int):=by omega
 have hbb:(b0 || decide (20<nn))=true:=by simp[h20]
 have Hnn:=Aa (show true=false->nn<=20 from fun h=>absurd h (by decide))
 rw[hbb]at HLQ
 clear h20 hbb
 go_wp2_with fail
 generalize hwg:World.alloc _ _=W4
 obtain⟨hb4,hk4⟩:=hN.o (w3.setCell ⟨b,2,none⟩ (.bool true)) (by simp;exact hB.symm) W4 hwg
 have F4:=Aa (F3b.o.post hb4)
 have K4:=Aa hk4
 rw[<-hB]
 clear hb4 hk4 hwg hB k0 s2 sf sl bz nb bz1 nz F3 F3b hN t20
 obtain⟨bb,hbb⟩:∃bb,bb=true:=⟨_,rfl⟩
 rw[<-hbb]at HLQ F4 Hnn
 clear hbb
 exact Qk5
theorem Qm8(w0:World)(b:Nat)(p:Value)(XS:List PT)(hsc:To w0 p XS)(t:List UInt8)(sk:Value)(e:Nat)(k:Kd)(w:World)(hw:Below w0.heap.size w0 w)(hbw:w0.heap.size<=b)(h:Md w b p t false sk e)(he:e<13)(hl:t.length<=600)(h0:e=0->sk=.slice none 0 0)
  (hs:k.signs=[]) (hbs:k.base=[64]) (hnm:k.name.length<=100) (x:PT) (hxf:Fh XS k.name=some x) (hx:Tc w0 x) (h9:x.ty.sort=69) (q:Option (Vl × List UInt8))
  (hq:q=match Ag t with|none=>none|some (n,r)=>(Ap x.ty.fields n).map fun _=>(.mk 69 [] n [],r)):
  Calls prog 129 #[.pointer (some ⟨b,0,none⟩),Fi k] w (Pp w b p t sk e 0 q):=by
 have hn1:=Nz t
 have hn2:=Qf t
 have Hnum:=Aa (fun W h=>Jf b p t false sk (e+1) W h (by omega))
 rw[Mv t]at hq
 simp only[Bool.false_or]at Hnum
 have Hf:=Aa (fun W (hW:Below w0.heap.size w0 W)=>Mj w0 x hx (Gn t) W hW (by omega))
 generalize (Ag t).isNone=b0 at *
 generalize Ds t=r0 at *
 generalize Gn t=n at *
 obtain⟨pb,A,c,mb,rfl,hpb,hc0,hc1,_,hnd,_,_⟩:=hsc
 have HN:=Aa (fun W (h:Below w0.heap.size w0 W)=>show (Instr.lookup 133 (.map (some mb)) (.string ⟨k.name.toArray⟩) false).run prog W=.ok (.pointer (some ⟨x.blk,0,none⟩)) W from by
  have:=Fw (D5.below hnd h) k.name (by omega);rw[hxf]at this;exact this)
 have HM:=Aa (fun W (h:Below w0.heap.size w0 W)=>(h.cell (p:=⟨pb,1,none⟩) hpb).trans hc1)
 have HX0:=Aa (fun W (h:Below w0.heap.size w0 W)=>(show W.cell? ⟨x.blk,0,none⟩=some (.int .u8 69)from by
  have:=(h.cell (p:=⟨x.blk,0,none⟩) hx.1).trans hx.2.2.1
  rw[h9]at this;exact this))
 have HQ:=Aa (show q=if b0=true then none else(Ap x.ty.fields n).map fun _=>(.mk 69 [] n [],r0)from by rw[hq];cases b0<;>rfl)
 have HS:=Aa h
 have HW:=Aa hw
 have H0:=Aa h0
 obtain⟨hb0,c4,f4,c2,n1,n2,n3,l1,l2,ei,e13,hmf⟩:=h.facts he
 generalize hfx:Ap x.ty.fields n=fx at *
 generalize hxb:x.blk=xb at *
 clear h hq h0 hc0 hc1 hnd hxf hw hx h9 hfx hxb
 rw[Qbj hs hbs]
 unfold Fi
 simp only
 go_enter_defers func129,ntmps129
 go_wp2_with fail
 refine(Ey _ _ _).mono ?_
 rintro en w2 ⟨rfl,hb2⟩
 have F2:=Aa ((Ha.init (k:=⟨[],[64],k.name⟩) HS.o).post hb2)
 clear hb2 c2
 have k0:=F2.o.2.1
 have k1:=Ab F2.o.2.2.1 1 rfl
 have k2:=Ab F2.o.2.2.1 2 rfl
 simp only[Nat.zero_add]at k1 k2
 have hE:=F2.o.1.env HW.o hbw
 have p0:=F2.o.1.1.c0
 have m1:=HM.o w2 hE
 have hlk:=HN.o w2 hE
 have hlj:=fun j=>HN.o (w2.drewN j) (below_drewN hE j)
 have x0:=HX0.o w2 hE
 go_wp2_with fail
 go_quiet (fail)
 have F3:=Aa (F2.o.post (below_drewN (Aq _ _) nq))
 clear p0 m1 hlk hlj k1 k2 F2 hE
 go_wp2_with fail
 refine(Hnum.o _ F3.o.1.1).mono ?_
 rintro en w4 ⟨rfl,hs4⟩
 have F4:=Aa (F3.o.step hb0 hs4)
 have bz:w.heap.size<w4.heap.size:=by have:=F4.o.2.2.2.2;omega
 have nz:¬(w.heap.size=w4.heap.size):=by omega
 have bl:=F4.o.1.1.lt
 have nb:¬(b=w4.heap.size):=by omega
 clear hs4 k0 x0 Hnum F3
 go_wp2_with fail
 generalize hwg:World.alloc w4 _=w5
 have hb5:Below w4.heap.size w4 w5:=by rw[<-hwg];exact(Aq _ _).alloc (Al _) _
 have F5:=Aa (F4.o.post hb5)
 have d0:w5.cell? ⟨w4.heap.size,0,none⟩=some (.int .u8 69):=by rw[<-hwg];simp
 have d1:w5.cell? ⟨w4.heap.size,1,none⟩=some (.string ⟨#[]⟩):=by rw[<-hwg];simp
 have d2:w5.cell? ⟨w4.heap.size,2,none⟩=some (.int .i64 (n:Int)):=by rw[<-hwg];simp
 have d3:w5.cell? ⟨w4.heap.size,3,none⟩=some (.slice none 0 0):=by rw[<-hwg];simp
 have k0:=F5.o.2.1
 have s2:=F5.o.1.1.c2
 have sf:=F5.o.1.1.bk.live 2
 clear hwg hb5
 refine(Hf.o w5 (F5.o.1.env HW.o hbw)).mono ?_
 rintro en w6 ⟨fp,rfl,hfp,rfl⟩
 have HQ:=HQ.o
 cases fx with
 |some g=>
  obtain⟨fb,fo,rfl,_,_⟩:=hfp
  go_wp2_with ((with_reducible refine Ac (op:=⟨none,.store 68 _ _,_,_,_,none⟩) rfl 68 _ _ rfl (w.heap.size+1+1) 0 [.int .u8 69,.string ⟨#[]⟩,.int .i64 (n:Int),.slice none 0 0] ?_ ?_ ?_ ?_ ?_ ?_);rfl;rfl;(exact F5.o.2.2.2.1);kernel_rfl;(simp[Value.oneCell']);intro w9 HS9)
  exact Ha.door (v:=.mk 69 [] n []) (sl:=.slice none 0 0) F5.o hb0 (by omega) HS9.o (Eb.nil _ _) (by rw[HQ];cases b0<;>rfl) (by rw[HQ];cases b0<;>simp) (by omega) (fun _=>rfl) (fun e0 x _=>⟨none,0,H0.o e0⟩) rfl
 |none=>
  have hfp':fp=.pointer none:=hfp
  subst hfp'
  have F6:=Aa (F5.o.bad hb0)
  have nc:¬(w4.heap.size=b):=by omega
  go_wp2_with ((with_reducible refine Ac (op:=⟨none,.store 68 _ _,_,_,_,none⟩) rfl 68 _ _ rfl (w.heap.size+1+1) 0 [.int .u8 69,.string ⟨#[]⟩,.int .i64 (n:Int),.slice none 0 0] ?_ ?_ ?_ ?_ ?_ ?_);rfl;rfl;(exact F6.o.2.2.2.1);kernel_rfl;(simp[Value.oneCell']);intro w9 HS9)
  exact Ha.door (v:=.mk 69 [] n []) (sl:=.slice none 0 0) F6.o hb0 (by omega) HS9.o (Eb.nil _ _) (by rw[HQ];cases b0<;>rfl) (by rw[HQ];cases b0<;>simp) (by omega) (fun _=>rfl) (fun e0 x _=>⟨none,0,H0.o e0⟩) rfl
theorem Qi9{w W W':World}{row:Option Nat}{J:Nat}(h:w.grownBy W row)(hg:W.grownBy W' (some J))(hJ:w.heap.size<=J):w.grownBy W' row:=
 ⟨hg.os.trans h.os,hg.tape.trans h.tape,hg.output.trans h.output,Nat.le_trans h.size hg.size,fun k hk hne=>(hg.block k (Nat.lt_of_lt_of_le hk h.size) (fun e=>by injection e with e;omega)).trans (h.block k hk hne)⟩
theorem Q5.new{w W W':World}{b J:Nat}{p sk:Value}{t:List UInt8}{x:Bool}{e:Nat}(h:Q5 w b p t x sk e W)(hb:b<w.heap.size)(hg:W.grownBy W' (some J))(hJ:w.heap.size<=J):Q5 w b p t x sk e W':=
 ⟨h.1.block hg.size (hg.block b h.1.lt (fun e=>by injection e with e;omega)),Qi9 h.2 hg hJ⟩
def whO:Option (Vl × List UInt8)->Option Vl
 |some (v,[])=>some v
 |_=>none
theorem Qbg(K:List UInt8->Option (Vl × List UInt8))(s:List UInt8):Cg K s=whO (K s):=by
 unfold Cg whO
 rfl
theorem Zx(w0:World)(p:Value)(S:List Ty)(d:Nat)(k:Kd)(H:IbV w0 p S d k)(hp1:∃pb,p=.pointer (some ⟨pb,0,none⟩))(b:Nat)(t s:List UInt8)(sk:Value)(e:Nat)(w:World)(hw:Below w0.heap.size w0 w)(hbw:w0.heap.size<=b)(h:Md w b p t false sk e)(he0:e≠0)(he:e+d=13)(hs:s.length<=600):
  Calls prog 184 #[.pointer (some ⟨b,0,none⟩),Fi k,.string ⟨s.toArray⟩] w fun en w'=>∃v sl,en=.returned (Gf v sl)/\Eb (fun c=>w.heap.size<=c) w' sl v.kids/\Q5 w b p t (Cg (E9 S d k) s).isNone sk e w'/\∀x,Cg (E9 S d k) s=some x->v=x:=by
 obtain⟨o,ho⟩:∃o,o=Cg (E9 S d k) s:=⟨_,rfl⟩
 rw[<-ho]
 rw[Qbg]at ho
 have HS:=Aa h
 have HW:=Aa hw
 have HH:=Aa H
 have hb0:=h.lt
 have c0:=h.c0
 have c4:=h.c4
 obtain⟨pb,rfl⟩:=hp1
 have n1:¬(b=w.heap.size):=by omega
 have n2:¬(b=w.heap.size+1):=by omega
 have n3:¬(b=w.heap.size+1+1):=by omega
 have l1:b<w.heap.size+1:=by omega
 have l2:b<w.heap.size+1+1:=by omega
 clear h hw H
 unfold Fi
 go_enter func184,ntmps184
 go_wp2_with fail
 go_region
 go_wp2_with fail
 generalize hwg:World.drew _=w3
 have hb3:Below w.heap.size w w3:=by rw[<-hwg];exact((((Aq _ _).alloc (Al _) _).alloc (by simp) _).alloc (by simp;omega) _).drew
 have hz3:w3.heap.size=w.heap.size+1+1+1:=by rw[<-hwg];simp
 have hJ:Md w3 (w.heap.size+1+1) (.pointer (some ⟨pb,0,none⟩)) s false (.slice none 0 0) e:=by
  rw[<-hwg]
  have hbk:=Qk.new ((w.alloc (.cells #[.string ⟨k.signs.toArray⟩,.string ⟨k.base.toArray⟩,.string ⟨k.name.toArray⟩] 60)).alloc (.cells #[.int .u8 0,.string ⟨#[]⟩,.int .i64 0,.slice none 0 0] 68)) #[.pointer (some ⟨pb,0,none⟩),.string ⟨s.toArray⟩,.bool false,.slice none 0 0,.int .i64 (e:Int)] 184
  rw[World.size_alloc,World.size_alloc]at hbk
  obtain⟨cs,T,hbk⟩:=hbk
  exact⟨by simp,⟨cs,T,hbk⟩,by simp[go_sem],by simp[go_sem],by simp[go_sem],by simp[go_sem],by simp[go_sem]⟩
 have hT:w3.there (w.heap.size+1) 0 4:=by
  rw[<-hwg]
  have:=Cu (w.alloc (.cells #[.string ⟨k.signs.toArray⟩,.string ⟨k.base.toArray⟩,.string ⟨k.name.toArray⟩] 60)) [.int .u8 0,.string ⟨#[]⟩,.int .i64 0,.slice none 0 0] 68
  rw[World.size_alloc]at this
  exact An this (show w.heap.size+1<w.heap.size+1+1 by omega) (((Aq _ _).alloc (by simp) _).drew)
 have B3:=Aa (show Q5 w b (.pointer (some ⟨pb,0,none⟩)) t false sk e w3 from⟨HS.o.grow hb3,Cd hb3 _⟩)
 have HC:=Aa (HH.o (w.heap.size+1+1) s (.slice none 0 0) e w3 (HW.o.trans (hb3.mono HW.o.size)) (by have:=HW.o.size;omega) hJ he hs (fun _=>rfl))
 have T3:=Aa hT
 generalize E9 S d k s=r at HC ho
 generalize skN S k s=nn at *
 have HO:=Aa ho
 clear ho
 clear hwg hb3 hJ hT HH
 unfold Fi at HC
 refine HC.o.mono ?_
 rintro en w4 ⟨v,sl,s',sk',rfl,hv,hs4,hx,_,_,_⟩
 have Hx:=Aa hx
 have B4:=Aa (B3.o.new hb0 hs4.2 (by omega))
 have T4:=Aa (Dn T3.o hs4.2 (by omega) (by simp))
 have hz4:=hs4.2.size
 have J1:=hs4.1.c1
 have J2:=hs4.1.c2
 have jl:=hs4.1.lt
 obtain⟨A7,c7,rfl⟩:=hv.form
 have Hv:=Aa (hv.mono (Q:=fun c=>w.heap.size<=c/\c≠w.heap.size+1) fun c hc _=>⟨by omega,by omega⟩)
 have nj:¬(w.heap.size+1+1=w4.heap.size):=by omega
 have bl:=B4.o.1.lt
 have nb:¬(b=w4.heap.size):=by omega
 have b2:=B4.o.1.c2
 have bf:=B4.o.1.bk.live 2
 have ht1:w.heap.size+1<w4.heap.size:=by omega
 have nt1:¬(w.heap.size+1=w4.heap.size):=by omega
 have B5:=Aa (fun o=>B4.o.post ((Aq _ _).alloc (Al _) o))
 have T5:=Aa (fun o=>An T4.o ht1 ((Aq _ _).alloc (Al _) o))
 have V5:=Aa (fun o=>Hv.o.after ((Aq _ _).alloc (Al _) o))
 clear hs4 hx hv B3 T3 HC
 unfold Gf
 have hfin:∀(W w9:World) (bd:Bool),Q5 w b (.pointer (some ⟨pb,0,none⟩)) t bd sk e W->W.there (w.heap.size+1) 0 4->Eb (fun c=>w.heap.size<=c/\c≠w.heap.size+1) W (.slice A7 v.kids.length c7) v.kids->w9=W.setCells (w.heap.size+1) 0 (Ew v (.slice A7 v.kids.length c7)) ->
   (Eb (fun c=>w.heap.size<=c) w9 (.slice A7 v.kids.length c7) v.kids/\Q5 w b (.pointer (some ⟨pb,0,none⟩)) t bd sk e w9)/\w9.rangeAt (w.heap.size+1) 0 (Ew v (.slice A7 v.kids.length c7)):=by
  rintro W w9 bd h1 h2 h3 rfl
  exact⟨⟨(h3.set (B:=w.heap.size+1) (by simp) _).mono fun c hc _=>hc.1,h1.set (by omega) (by omega) _⟩,World.rangeAt_setCells_same _ _ _ _ h2⟩
 have Hfin:=Aa hfin
 clear hfin
 have hcase:(o=none/\(r.isNone=true\/r.isNone=false/\s'≠[]))\/(o=some v/\r.isNone=false/\s'=[]):=by
  cases r with
  |none=>exact .inl ⟨HO.o,.inl rfl⟩
  |some y=>
   obtain⟨e1,e2⟩:=Hx.o y rfl
   obtain⟨v',z⟩:=y
   simp only at e1 e2
   subst e1 e2
   cases s' with
   |nil=>exact .inr ⟨HO.o,rfl,rfl⟩
   |cons c z=>exact .inl ⟨HO.o,.inr ⟨rfl,by simp⟩⟩
 generalize r.isNone=bd at *
 clear Hx HO
 have B6:=Aa (fun o=>(show Q5 w b (.pointer (some ⟨pb,0,none⟩)) t true sk e (w4.setCell ⟨b,2,none⟩ (.bool true))from⟨B4.o.1.setBad true,B4.o.2.trans (Ai _ _ _ _)⟩).post ((Aq _ _).alloc (Al _) o))
 have T6:=Aa (fun o=>An (World.there_setCells T4.o b 2 [.bool true]) (by simpa [World.setCells]using ht1) ((Aq (w4.setCell ⟨b,2,none⟩ (.bool true)).heap.size (w4.setCell ⟨b,2,none⟩ (.bool true))).alloc (Al _) o))
 have V6:=Aa (fun o=>(Hv.o.grown (Ai w4 b 2 (.bool true)) (fun c hc e=>by injection e with e;omega)).after ((Aq (w4.setCell ⟨b,2,none⟩ (.bool true)).heap.size (w4.setCell ⟨b,2,none⟩ (.bool true))).alloc (Al _) o))
 clear B4 Hv T4
 rcases hcase with⟨rfl,rfl|⟨rfl,hne⟩⟩|⟨rfl,rfl,rfl⟩
 rotate_left
 ·have e1:(!s'.isEmpty)=true:=by cases s' with|nil=>exact absurd rfl hne|cons c z=>rfl
  have e2:s'.isEmpty=false:=by cases s' with|nil=>exact absurd rfl hne|cons c z=>rfl
  have e3:(s' != [])=true:=by cases s' with|nil=>exact absurd rfl hne|cons c z=>rfl
  clear hne
  go_wp2_with ((with_reducible refine Ac (op:=⟨none,.store 68 _ _,_,_,_,none⟩) rfl 68 _ _ rfl (w.heap.size+1) 0 (Ew v (.slice A7 v.kids.length c7)) ?_ ?_ ?_ ?_ ?_ ?_);rfl;rfl;(exact T6.o _);kernel_rfl;(simp[Ew,Value.oneCell']);intro w9 HS9)
  have Z:=Hfin.o _ w9 true (B6.o _) (T6.o _) (V6.o _) HS9.o
  exact bodyPost_ret (v:=.agg (Ew v (.slice A7 v.kids.length c7)).toArray) (Ba results184 _ _ (w.heap.size+1) _ _ rfl Z.2 underlying68 rfl (by kernel_rfl)) rfl ⟨v,_,rfl,Z.1.1,Z.1.2,by simp⟩
 ·go_wp2_with ((with_reducible refine Ac (op:=⟨none,.store 68 _ _,_,_,_,none⟩) rfl 68 _ _ rfl (w.heap.size+1) 0 (Ew v (.slice A7 v.kids.length c7)) ?_ ?_ ?_ ?_ ?_ ?_);rfl;rfl;(exact T5.o _);kernel_rfl;(simp[Ew,Value.oneCell']);intro w9 HS9)
  have Z:=Hfin.o _ w9 false (B5.o _) (T5.o _) (V5.o _) HS9.o
  exact bodyPost_ret (v:=.agg (Ew v (.slice A7 v.kids.length c7)).toArray) (Ba results184 _ _ (w.heap.size+1) _ _ rfl Z.2 underlying68 rfl (by kernel_rfl)) rfl ⟨v,_,rfl,Z.1.1,Z.1.2,fun x h=>by injection h⟩
 go_wp2_with ((with_reducible refine Ac (op:=⟨none,.store 68 _ _,_,_,_,none⟩) rfl 68 _ _ rfl (w.heap.size+1) 0 (Ew v (.slice A7 v.kids.length c7)) ?_ ?_ ?_ ?_ ?_ ?_);rfl;rfl;(exact T6.o _);kernel_rfl;(simp[Ew,Value.oneCell']);intro w9 HS9)
 have Z:=Hfin.o _ w9 true (B6.o _) (T6.o _) (V6.o _) HS9.o
 exact bodyPost_ret (v:=.agg (Ew v (.slice A7 v.kids.length c7)).toArray) (Ba results184 _ _ (w.heap.size+1) _ _ rfl Z.2 underlying68 rfl (by kernel_rfl)) rfl ⟨v,_,rfl,Z.1.1,Z.1.2,by simp⟩
abbrev UnV(w:World)(b:Nat)(p:Value)(k:Kd)(t:List UInt8)(sk:Value)(e:Nat)(o:Option Vl)(l8:Bool)(u7 u8:Value)(W:World):Prop:=
 ∃v,(∀x,o=some x->v=x)/\Ha w b p k t o.isNone sk e W/\(l8=false->∃sl,u7=Gf v sl/\Eb (fun c=>w.heap.size+1+1<c) W sl v.kids)/\(l8=true->(∃g,u8=.slice (some ⟨g,0,none⟩) 1 1)/\Eb (fun c=>w.heap.size+1+1<c) W u8 [v])
theorem UnV.puts{w:World}{b:Nat}{p:Value}{k:Kd}{t:List UInt8}{sk:Value}{e:Nat}{o:Option Vl}{l8:Bool}{u7 u8:Value}{W:World}(h:UnV w b p k t sk e o l8 u7 u8 W)(hb:b<w.heap.size)(i:Nat)(cs:List Value):UnV w b p k t sk e o l8 u7 u8 (W.setCells (w.heap.size+1+1) i cs):=by
 obtain⟨v,h1,h2,h3,h4⟩:=h
 have hg:=Ei (w.heap.size+1+1) cs i W
 have hF:Ha w b p k t o.isNone sk e (W.setCells (w.heap.size+1+1) i cs):=by
  obtain⟨a1,k1,k2,k3,k4⟩:=h2
  exact⟨a1.new hb hg (by omega),hg.cell k1 (by simp;omega),Ee k2 hg (by simp),World.there_setCells k3 (w.heap.size+1+1) i cs,by rw[Ch];exact k4⟩
 refine⟨v,h1,hF,fun q=>?_,fun q=>⟨(h4 q).1,(h4 q).2.grown hg fun c hc e=>by injection e with e;omega⟩⟩
 obtain⟨sl,e1,e2⟩:=h3 q
 exact⟨sl,e1,e2.grown hg fun c hc e=>by injection e with e;omega⟩
structure Qs(w:World)(b:Nat)(p:Value)(k:Kd)(t:List UInt8)(sk:Value)(e tag:Nat)(o:Option Vl)(l7 l8 l9 la lb lc:Bool)(u7 u8:Value)(W:World):Prop where
 o1:l8=true->l7=true
 o2:l9=true->l7=true
 o3:la=true->l9=true
 o4:lb=true->la=true
 o5:lc=true->lb=true
 o6:lc=true->l8=true
 a:l7=false->Ha w b p k t false sk e W
 b:l7=true->UnV w b p k t sk e o l8 u7 u8 W
 c:l9=true->W.rangeAt (w.heap.size+1+1) 0 [.int .u8 (if la=true then 85 else 0),.string ⟨#[]⟩,.int .i64 (if lb=true then(tag:Int)else 0),if lc=true then u8 else .slice none 0 0]
section
variable {w:World} {b:Nat} {p:Value} {k:Kd} {t:List UInt8} {sk:Value} {e tag:Nat} {o:Option Vl} {l7 l8 l9 la lb lc:Bool} {u7 u8:Value} {W:World}
theorem Qs.n8(h:Qs w b p k t sk e tag o l7 l8 l9 la lb lc u7 u8 W)(q:l7=false):l8=false:=by cases h9:l8 with|false=>rfl|true=>exact absurd ((h.o1 h9).symm.trans q) (by decide)
theorem Qs.n9(h:Qs w b p k t sk e tag o l7 l8 l9 la lb lc u7 u8 W)(q:l7=false):l9=false:=by cases h9:l9 with|false=>rfl|true=>exact absurd ((h.o2 h9).symm.trans q) (by decide)
theorem Qs.na(h:Qs w b p k t sk e tag o l7 l8 l9 la lb lc u7 u8 W)(q:l9=false):la=false:=by cases h9:la with|false=>rfl|true=>exact absurd ((h.o3 h9).symm.trans q) (by decide)
theorem Qs.nb(h:Qs w b p k t sk e tag o l7 l8 l9 la lb lc u7 u8 W)(q:la=false):lb=false:=by cases h9:lb with|false=>rfl|true=>exact absurd ((h.o4 h9).symm.trans q) (by decide)
theorem Qs.nc(h:Qs w b p k t sk e tag o l7 l8 l9 la lb lc u7 u8 W)(q:lb=false):lc=false:=by cases h9:lc with|false=>rfl|true=>exact absurd ((h.o5 h9).symm.trans q) (by decide)
theorem Qs.start(F:Ha w b p k t false sk e W):Qs w b p k t sk e tag o false false false false false false u7 u8 W.drew:=
 ⟨by simp,by simp,by simp,by simp,by simp,by simp,fun _=>F.post (below_drewN (Aq _ _) 1),by simp,by simp⟩
theorem Qs.call{W':World}{v:Vl}{sl:Value}(h:Qs w b p k t sk e tag o l7 l8 l9 la lb lc u7 u8 W)(q:l7=false)(hx:∀x,o=some x->v=x)(hF:Ha w b p k t o.isNone sk e W')(hv:Eb (fun c=>w.heap.size+1+1<c) W' sl v.kids):Qs w b p k t sk e tag o true l8 l9 la lb lc (Gf v sl) u8 W':=by
 have e8:=h.n8 q
 have e9:=h.n9 q
 exact⟨fun _=>rfl,fun _=>rfl,h.o3,h.o4,h.o5,h.o6,fun q=>absurd q (by decide),fun _=>⟨v,hx,hF,fun _=>⟨sl,rfl,hv⟩,fun q=>absurd (e8.symm.trans q) (by decide)⟩,fun q=>absurd (e9.symm.trans q) (by decide)⟩
theorem Qs.build{W':World}{v:Vl}{g:Nat}(h:Qs w b p k t sk e tag o l7 l8 l9 la lb lc u7 u8 W)(q:l7=true)(q2:lc=false)(hx:∀x,o=some x->v=x)(hF:Ha w b p k t o.isNone sk e W)(hb:Below W.heap.size W W')(hv:Eb (fun c=>w.heap.size+1+1<c) W' (.slice (some ⟨g,0,none⟩) 1 1) [v]):
  Qs w b p k t sk e tag o l7 true l9 la lb lc u7 (.slice (some ⟨g,0,none⟩) 1 1) W':=
 ⟨fun _=>q,h.o2,h.o3,h.o4,h.o5,fun _=>rfl,fun q'=>absurd (q.symm.trans q') (by decide),fun _=>⟨v,hx,hF.post hb,fun q=>absurd q (by decide),fun _=>⟨⟨g,rfl⟩,hv⟩⟩,fun q9=>by have:=Ar (h.c q9) hF.2.2.2.2 hb;subst q2;simpa using this⟩
theorem Qs.zero(h:Qs w b p k t sk e tag o l7 l8 l9 la lb lc u7 u8 W)(q:l7=true)(q2:l9=false)(hb:b<w.heap.size):Qs w b p k t sk e tag o l7 l8 true la lb lc u7 u8 (W.setCells (w.heap.size+1+1) 0 [.int .u8 0,.string ⟨#[]⟩,.int .i64 0,.slice none 0 0]):=by
 have ea:=h.na q2
 have eb:=h.nb ea
 have ec:=h.nc eb
 obtain⟨v,h1,h2,_⟩:=h.b q
 have h2:=h2.2.2.2.1
 refine⟨h.o1,fun _=>q,fun _=>rfl,h.o4,h.o5,h.o6,fun q'=>absurd (q.symm.trans q') (by decide),fun _=>(h.b q).puts hb 0 _,fun _=>?_⟩
 subst ea eb ec
 exact World.rangeAt_setCells_same _ _ _ _ h2
theorem Qs.fz(h:Qs w b p k t sk e tag o l7 l8 l9 la lb lc u7 u8 W)(q:l7=true){i:Nat}(hi:i<4):W.frozen? ⟨w.heap.size+1+1,i,none⟩=false:=by
 obtain⟨v,h1,h2,_⟩:=h.b q
 simpa using(h2.2.2.2.1 i hi).2
theorem Qs.what(h:Qs w b p k t sk e tag o l7 l8 l9 la lb lc u7 u8 W)(q:l9=true)(q2:la=false)(hb:b<w.heap.size):Qs w b p k t sk e tag o l7 l8 l9 true lb lc u7 u8 (W.setCell ⟨w.heap.size+1+1,0,none⟩ (.int .u8 85)):=by
 have eb:=h.nb q2
 have ec:=h.nc eb
 have q7:=h.o2 q
 have hc:=h.c q
 refine⟨h.o1,h.o2,fun _=>q,fun _=>rfl,h.o5,h.o6,fun q'=>absurd (q7.symm.trans q') (by decide),fun _=>(h.b q7).puts hb 0 [.int .u8 85],fun _=>?_⟩
 subst q2 eb ec
 exact Cm [] [_] _ [.int .u8 85] hc rfl
theorem Qs.tagd(h:Qs w b p k t sk e tag o l7 l8 l9 la lb lc u7 u8 W)(q:la=true)(q2:lb=false)(hb:b<w.heap.size):Qs w b p k t sk e tag o l7 l8 l9 la true lc u7 u8 (W.setCell ⟨w.heap.size+1+1,2,none⟩ (.int .i64 (tag:Int))):=by
 have ec:=h.nc q2
 have q9:=h.o3 q
 have q7:=h.o2 q9
 have hc:=h.c q9
 refine⟨h.o1,h.o2,h.o3,fun _=>q,fun _=>rfl,h.o6,fun q'=>absurd (q7.symm.trans q') (by decide),fun _=>(h.b q7).puts hb 2 [.int .i64 (tag:Int)],fun _=>?_⟩
 subst q2 ec q
 exact Cm [.int .u8 85,.string ⟨#[]⟩] [_] _ [.int .i64 (tag:Int)] hc rfl
theorem Qs.kidd(h:Qs w b p k t sk e tag o l7 l8 l9 la lb lc u7 u8 W)(q:lb=true)(q8:l8=true)(q2:lc=false)(hb:b<w.heap.size):Qs w b p k t sk e tag o l7 l8 l9 la lb true u7 u8 (W.setCell ⟨w.heap.size+1+1,3,none⟩ u8):=by
 have qa:=h.o4 q
 have q9:=h.o3 qa
 have q7:=h.o2 q9
 have hc:=h.c q9
 refine⟨h.o1,h.o2,h.o3,h.o4,fun _=>q,fun _=>q8,fun q'=>absurd (q7.symm.trans q') (by decide),fun _=>(h.b q7).puts hb 3 [u8],fun _=>?_⟩
 subst q2 q qa
 exact Cm [.int .u8 85,.string ⟨#[]⟩,.int .i64 (tag:Int)] [_] [] [u8] hc rfl
end
theorem Qmt(w0:World)(b:Nat)(p:Value)(XS:List PT)(hsc:To w0 p XS)(S:List Ty)(d:Nat)(t:List UInt8)(sk:Value)(e:Nat)(k:Kd)(w:World)(hw:Below w0.heap.size w0 w)(hbw:w0.heap.size<=b)(h:Md w b p t false sk e)(he:e+(d+1)=13)(hl:t.length<=600)(h0:e=0->sk=.slice none 0 0)
  (hs:k.signs=[]) (hbs:k.base=[64]) (hnm:k.name.length<=100) (x:PT) (hxf:Fh XS k.name=some x) (hx:Tc w0 x) (h9:x.ty.sort=85) (H:∀n f,Ap x.ty.fields n=some f->IbV w0 p S d f.kind) (q:Option (Vl × List UInt8))
  (hq:q=match Ag t with|none=>none|some (n,r)=>match Ed r with|none=>none|some (s,z)=>(Ap x.ty.fields n).bind fun f=>(Cg (E9 S d f.kind) s).map fun v=>(.mk 85 [] n [v],z)):
  Calls prog 129 #[.pointer (some ⟨b,0,none⟩),Fi k] w (Pp w b p t sk e 0 q):=by
 have he13:e<13:=by omega
 have hn1:=Nz t
 have hn2:=Qf t
 have hr1:=Vn (Ds (Ds t)) (Gn (Ds t)) ((Ag t).isNone || (Ag (Ds t)).isNone)
 have hs1:=Qg3 (Ds (Ds t)) (Gn (Ds t)) ((Ag t).isNone || (Ag (Ds t)).isNone)
 have hn3:=Nz (Ds t)
 have Hnum0:=Aa (fun W h=>Jf b p t false sk (e+1) W h (by omega))
 have Hnum:=Aa (fun W h=>Jf b p (Ds t) (Ag t).isNone sk (e+1) W h (by omega))
 have Htk:=Aa (fun W h=>Pe b p (Ds (Ds t)) ((Ag t).isNone || (Ag (Ds t)).isNone) sk (e+1) (Gn (Ds t)) W h (by omega) (Qf _))
 simp only[Bool.false_or]at Hnum0
 have HQ:=Aa (show q=if Y8 (Ds (Ds t)) (Gn (Ds t)) ((Ag t).isNone || (Ag (Ds t)).isNone)=true then none else(Ap x.ty.fields (Gn t)).bind fun f=>(Cg (E9 S d f.kind) (tkS (Ds (Ds t)) (Gn (Ds t)) ((Ag t).isNone || (Ag (Ds t)).isNone))).map fun v=>(.mk 85 [] (Gn t) [v],tkR (Ds (Ds t)) (Gn (Ds t)) ((Ag t).isNone || (Ag (Ds t)).isNone))from by
  rw[hq]
  have e1:=Mv t
  generalize (Ag t).isNone=c0 at e1 ⊢
  rw[e1]
  cases c0 with
  |true=>simp[Y8]
  |false=>
   simp only[Bool.false_or,Bool.false_eq_true,if_false]
   rw[Vy (Ds t)]
   by_cases h2:Y8 (Ds (Ds t)) (Gn (Ds t)) (Ag (Ds t)).isNone=true
   ·rw[if_pos h2,if_pos h2]
   rw[if_neg h2,if_neg h2])
 have HH:=Aa H
 have Hf:=Aa (fun W (hW:Below w0.heap.size w0 W)=>Mj w0 x hx (Gn t) W hW (by omega))
 generalize hb1:((Ag t).isNone || (Ag (Ds t)).isNone)=b1 at *
 generalize tkS (Ds (Ds t)) (Gn (Ds t)) b1=s at *
 generalize tkR (Ds (Ds t)) (Gn (Ds t)) b1=r2 at *
 generalize Y8 (Ds (Ds t)) (Gn (Ds t)) b1=bd at *
 generalize Gn (Ds t)=n1 at *
 generalize Ds (Ds t)=r1 at *
 generalize Ds t=r0 at *
 generalize (Ag t).isNone=b0 at *
 generalize Gn t=n at *
 obtain⟨pb,A,c,mb,rfl,hpb,hc0,hc1,_,hnd,_,_⟩:=hsc
 have HN:=Aa (fun W (h:Below w0.heap.size w0 W)=>show (Instr.lookup 133 (.map (some mb)) (.string ⟨k.name.toArray⟩) false).run prog W=.ok (.pointer (some ⟨x.blk,0,none⟩)) W from by
  have:=Fw (D5.below hnd h) k.name (by omega);rw[hxf]at this;exact this)
 have HM:=Aa (fun W (h:Below w0.heap.size w0 W)=>(h.cell (p:=⟨pb,1,none⟩) hpb).trans hc1)
 have HX0:=Aa (fun W (h:Below w0.heap.size w0 W)=>(show W.cell? ⟨x.blk,0,none⟩=some (.int .u8 85)from by
  have:=(h.cell (p:=⟨x.blk,0,none⟩) hx.1).trans hx.2.2.1
  rw[h9]at this;exact this))
 have HS:=Aa h
 have HW:=Aa hw
 have H0:=Aa h0
 obtain⟨hb0,c4,f4,c2,n1',n2,n3,l1,l2,ei,e13,hmf⟩:=h.facts he13
 have HC:=Aa (fun f (hf:Ap x.ty.fields n=some f) W (hW:Below w0.heap.size w0 W) (h:Md W b (.pointer (some ⟨pb,0,none⟩)) r2 false sk (e+1))=>Zx w0 (.pointer (some ⟨pb,0,none⟩)) S d f.kind (HH.o n f hf) ⟨pb,rfl⟩ b r2 s sk (e+1) W hW hbw h (by omega) (by omega) (by omega))
 generalize hfx:Ap x.ty.fields n=fx at *
 generalize hxb:x.blk=xb at *
 clear h hq h0 hc0 hc1 hnd hxf hw hx h9 hfx hxb H HH hb1
 rw[Qbj hs hbs]
 unfold Fi
 simp only
 go_enter_defers func129,ntmps129
 go_wp2_with fail
 refine(Ey _ _ _).mono ?_
 rintro en w2 ⟨rfl,hb2⟩
 have F2:=Aa ((Ha.init (k:=⟨[],[64],k.name⟩) HS.o).post hb2)
 clear hb2 c2
 have k0:=F2.o.2.1
 have k1:=Ab F2.o.2.2.1 1 rfl
 have k2:=Ab F2.o.2.2.1 2 rfl
 simp only[Nat.zero_add]at k1 k2
 have hE:=F2.o.1.env HW.o hbw
 have p0:=F2.o.1.1.c0
 have m1:=HM.o w2 hE
 have hlk:=HN.o w2 hE
 have hlj:=fun j=>HN.o (w2.drewN j) (below_drewN hE j)
 have x0:=HX0.o w2 hE
 go_wp2_with fail
 go_quiet (fail)
 have F3:=Aa (F2.o.post (below_drewN (Aq _ _) nq))
 clear p0 m1 hlk hlj k1 k2 F2 hE
 go_wp2_with fail
 refine(Hnum0.o _ F3.o.1.1).mono ?_
 rintro en w4 ⟨rfl,hs4⟩
 have F4:=Aa (F3.o.step hb0 hs4)
 clear hs4 k0 x0 Hnum0 F3
 go_wp2_with fail
 refine rgF (fun l u W=>NtR w b (.pointer (some ⟨pb,0,none⟩)) ⟨[],[64],k.name⟩ r0 r1 r2 b0 b1 bd sk e (l 2) (l 3) W) (fun _=>True) (fun _ _ _ _=>Ae) (NtR.start F4.o) ?_
 iterate 2 refine ntL ?_
 refine ntN (n:=n1) ?_
 refine ntT (s:=s) ?_
 refine sq ?_
 refine dn fun l u W hll _ hR=>?_
 have F5:=Aa (hR.o.d (hll 3 (by decide)))
 clear hR hll Hnum Htk F4
 go_wp2_with fail
 refine(Hf.o W (F5.o.1.env HW.o hbw)).mono ?_
 rintro en w6 ⟨fp,rfl,hfp,rfl⟩
 have k0:=F5.o.2.1
 have s2:=F5.o.1.1.c2
 have sf:=F5.o.1.1.bk.live 2
 have F6:=Aa (F5.o.bad hb0)
 rcases hcase:fx with _|g
 ·subst hcase
  have hfp':fp=.pointer none:=hfp
  subst hfp'
  clear HC hfp
  have HQ:=Aa (show q=none from by rw[HQ.o];cases bd<;>rfl)
  go_wp2_with ((with_reducible refine Ac (op:=⟨none,.store 68 _ _,_,_,_,none⟩) rfl 68 _ _ rfl (w.heap.size+1+1) 0 [.int .u8 0,.string ⟨#[]⟩,.int .i64 0,.slice none 0 0] ?_ ?_ ?_ ?_ ?_ ?_);rfl;rfl;(exact F6.o.2.2.2.1);kernel_rfl;(simp[Value.oneCell']);intro w9 HS9)
  exact Ha.door (v:=Eu) (sl:=.slice none 0 0) F6.o hb0 (by omega) HS9.o (Eb.nil _ _) (by rw[HQ.o];rfl) (by rw[HQ.o];simp) (by omega) (fun _=>rfl) (fun e0 x _=>⟨none,0,H0.o e0⟩) rfl
 subst hcase
 obtain⟨fb,fo,rfl,hlt,hrg⟩:=hfp
 cases bd with
 |true=>
  clear hrg HC
  have HQ:=Aa (show q=none from HQ.o)
  go_wp2_with ((with_reducible refine Ac (op:=⟨none,.store 68 _ _,_,_,_,none⟩) rfl 68 _ _ rfl (w.heap.size+1+1) 0 [.int .u8 0,.string ⟨#[]⟩,.int .i64 0,.slice none 0 0] ?_ ?_ ?_ ?_ ?_ ?_);rfl;rfl;(exact F6.o.2.2.2.1);kernel_rfl;(simp[Value.oneCell']);intro w9 HS9)
  exact Ha.door (v:=Eu) (sl:=.slice none 0 0) F6.o hb0 (by omega) HS9.o (Eb.nil _ _) (by rw[HQ.o];rfl) (by rw[HQ.o];simp) (by omega) (fun _=>rfl) (fun e0 x _=>⟨none,0,H0.o e0⟩) rfl
 |false=>
  have hEW:=F5.o.1.env HW.o hbw
  have HR:=Aa (show ∀W',Below w0.heap.size w0 W'->W'.rangeAt fb fo (Tq g)from fun W' hW' j v hj=>((hW'.cell (p:=⟨fb,fo+j,none⟩) hlt).trans (hEW.cell (p:=⟨fb,fo+j,none⟩) hlt).symm).trans (hrg j v hj))
  have HC:=Aa (HC.o g rfl)
  have HQ:=Aa (show q=(Cg (E9 S d g.kind) s).map fun v=>(.mk 85 [] n [v],r2)from HQ.o)
  generalize Cg (E9 S d g.kind) s=ow at *
  clear hrg hEW F6
  go_wp2_with fail
  clear k0 s2 sf
  refine rgF (fun l u W=>Qs w b (.pointer (some ⟨pb,0,none⟩)) ⟨[],[64],k.name⟩ r2 sk e n ow (l 7) (l 8) (l 9) (l 11) (l 13) (l 15) (u 7) (u 8) W) (fun _=>True) (fun _ _ _ _=>Ae) (Qs.start F5.o) ?_
  refine sq ?_
  refine Ju (fun v=>v=.pointer (some ⟨b,0,none⟩)) (by
   intro l u W hl hp hF hG hi K hK
   have hc:=(hF.o.a (hi.o 7 (by rfl)).1).2.1
   clear hp hi hG
   go_simp
   exact hK _ _ _ rfl hF.o rfl) ?_
  iterate 3 refine sq ?_
  refine Ju (fun v=>v=Fi g.kind) (by
   intro l u W hl hp hF hG hi K hK
   have hA:=HR.o W ((hF.o.a (hi.o 7 (by rfl)).1).1.env HW.o hbw)
   have k2:=Ab hA 2 rfl
   have k3:=Ab hA 3 rfl
   have k4:=Ab hA 4 rfl
   simp[Region.binds,Co]at hp
   clear hi hG hA
   go_simp
   exact hK (Fi g.kind) _ _ rfl hF.o (by simp[Act.put,hp];rfl)) ?_
  refine sq ?_
  refine Ju (fun v=>∃x sl,v=Gf x sl) (by
   intro l u W hl hp hF hG hi K hK
   have hR:=Aa hF.o
   have hA:=Aa (hF.o.a hl)
   have HC:=Aa (HC.o W (hA.o.1.env HW.o hbw) hA.o.1.1)
   simp[Region.binds,Co]at hp
   unfold Fi at hp HC
   clear hi hG hF
   go_simp
   refine HC.o.mono ?_
   rintro en w' ⟨v,sl,rfl,hv,hB,hx⟩
   exact hK (Gf v sl) _ _ ⟨v,sl,rfl⟩ (hR.o.call hl hx (hA.o.step hb0 hB) (hv.mono fun c hc _=>by have:=hA.o.2.2.2.2;omega)) (by simp[Act.put,hp])) ?_
  refine Ju (fun v=>∃g,v=.slice (some ⟨g,0,none⟩) 1 1) (by
   intro l u W hl hp hF hG hi K hK
   have h15:l 15=false:=(hi.o 15 (by rfl)).1
   have h7:l 7=true:=(hp ⟨7,.data⟩ (by simp) rfl).1
   obtain⟨v,hx,hFr,h1,_⟩:=hF.o.b h7
   obtain⟨sl,e7,hiv⟩:=h1 hl
   obtain⟨A7,c7,rfl⟩:=hiv.form
   have hR:=Aa (hF.o.build (g:=W.heap.size) h7 h15 hx hFr ((Aq _ _).alloc (Al _) _) (hiv.one (T:=68) (fun c hc _=>hc) hFr.2.2.2.2))
   unfold Gf at e7
   clear hi hG hF hp hiv hFr hx h1
   go_simp
   exact hK (.slice (some ⟨W.heap.size,0,none⟩) 1 1) _ _ ⟨_,rfl⟩ hR.o (by simp[Act.put,e7])) ?_
  refine Ju (fun _=>True) (by
   intro l u W hl hp hF hG hi K hK
   simp[Region.binds,Co]at hp
   have h7:l 7=true:=by simp[hp]
   obtain⟨v,hx,hFr,_⟩:=hF.o.b h7
   have hR:=hF.o.zero h7 hl hb0
   simp only[Region.wanted,if_true]
   refine wp_store_mid 68 _ _ rfl (w.heap.size+1+1) 0 #[.int .u8 0,.string ⟨#[]⟩,.int .i64 0,.slice none 0 0] rfl rfl hFr.2.2.2.1 (by kernel_rfl) (by simp[Value.oneCell']) ?_
   exact hK undef _ _ Ae hR rfl) ?_
  refine sq ?_
  refine Ju (fun _=>True) (by
   intro l u W hl hp hF hG hi K hK
   simp[Region.binds,Co]at hp
   have h9:l 9=true:=by simp[hp]
   have hfz:=hF.o.fz (hF.o.o2 h9) (i:=0) (by decide)
   have hcell:=Ab (hF.o.c h9) 0 rfl
   have hR:=Aa (hF.o.what h9 hl hb0)
   clear hi hG hF
   go_simp
   exact hK undef _ _ Ae hR.o (by simp[Act.put,hp])) ?_
  refine sq ?_
  refine Ju (fun _=>True) (by
   intro l u W hl hp hF hG hi K hK
   simp[Region.binds,Co]at hp
   have ha:l 11=true:=by simp[hp]
   have h9:=hF.o.o3 ha
   have hfz:=hF.o.fz (hF.o.o2 h9) (i:=2) (by decide)
   have hcell:=Ab (hF.o.c h9) 2 rfl
   have hR:=Aa (hF.o.tagd ha hl hb0)
   clear hi hG hF
   go_simp
   exact hK undef _ _ Ae hR.o (by simp[Act.put,hp])) ?_
  refine sq ?_
  refine Ju (fun _=>True) (by
   intro l u W hl hp hF hG hi K hK
   simp[Region.binds,Co]at hp
   have h13:l 13=true:=by simp[hp]
   have h8:l 8=true:=by simp[hp]
   have h9:=hF.o.o3 (hF.o.o4 h13)
   have h7:=hF.o.o2 h9
   have hfz:=hF.o.fz h7 (i:=3) (by decide)
   have hcell:=Ab (hF.o.c h9) 3 rfl
   have hR:=Aa (hF.o.kidd h13 h8 hl hb0)
   obtain⟨v,_,_,_,h2⟩:=hF.o.b h7
   obtain⟨⟨g',e8⟩,_⟩:=h2 h8
   clear hi hG hF h2
   have e9:W.setCell ⟨w.heap.size+1+1,3,none⟩ (u 8)=W.setCell ⟨w.heap.size+1+1,3,none⟩ (.slice (some ⟨g',0,none⟩) 1 1):=by rw[e8]
   rw[e9]at hR
   clear e9
   go_simp
   exact hK undef _ _ Ae hR.o (by simp[Act.put,hp,e8])) ?_
  intro l u W hll _ hR
  have h15:=hll 15 (by decide)
  have hc:=hR.c (hll 9 (by decide))
  obtain⟨v,hx,hFr,_,h8⟩:=hR.b (hll 7 (by decide))
  have hv:=(h8 (hll 8 (by decide))).2
  rw[if_pos (hll 11 (by decide)),if_pos (hll 13 (by decide)),if_pos h15]at hc
  have F8:=Aa hFr
  have HV:=Aa hv
  have HR8:=Aa hc
  have HX:=Aa hx
  clear hll hR h15 hc hFr h8 hv hx
  go_wp2_with fail
  exact Ha.door0 (v:=.mk 85 [] n [v]) (sl:=u 8) F8.o.1 F8.o.2.1 hb0 (by omega) HR8.o (HV.o.mono fun c hc _=>by omega) (by rw[HQ.o];cases ow<;>rfl) (by rw[HQ.o];intro x hx;cases ow with|none=>cases hx|some y=>injection hx with hx;subst hx;exact⟨by rw[HX.o y rfl],rfl⟩) (by omega) (fun _=>rfl) (fun e0 x _=>⟨none,0,H0.o e0⟩) rfl
def Sk(vs:List Vl):Option (List Vl × List UInt8)->Option (List Vl × List UInt8)
 |some (us,z)=>some (vs++us,z)
 |none=>none
def LI(K:List UInt8->Option (Vl × List UInt8))(t1:List UInt8)(b1:Bool)(vs:List Vl)(tt:List UInt8):Prop:=
 (b1=true->vs=[])/\(b1=false->De K 1000 t1=Sk vs (De K (1000 - vs.length) tt))/\Du (vs.map Aw)+tt.length<=t1.length/\∀x∈vs,Bd x
def LE(K:List UInt8->Option (Vl × List UInt8))(t1:List UInt8)(b1:Bool)(vs:List Vl)(tt:List UInt8)(bb:Bool)(N:Nat):Prop:=
 (if b1 then none else De K 1000 t1)=(if bb then none else match As 93 tt with|some z=>some (vs,z)|none=>none)/\Du (vs.map Aw)+tt.length<=t1.length+8*N+1/\∀x∈vs,Bd x
theorem LI.init(K:List UInt8->Option (Vl × List UInt8))(t1:List UInt8)(b1:Bool):LI K t1 b1 [] t1:=
 ⟨fun _=>rfl,fun _=>by cases h:De K 1000 t1<;>simp[Sk,h],by simp[Du],by simp⟩
theorem Mw(a b:List (List UInt8)):Du (a++b)=Du a+Du b:=dl
theorem LI.len{K:List UInt8->Option (Vl × List UInt8)}{t1 tt:List UInt8}{b1:Bool}{vs:List Vl}(h:LI K t1 b1 vs tt):vs.length+tt.length<=t1.length:=by
 have h1:=Qh6 (vs.map Aw);have h2:=h.2.2.1;simp at h1;omega
theorem LI.step{K:List UInt8->Option (Vl × List UInt8)}{t1 tt t' t'':List UInt8}{vs:List Vl}{v:Vl}(h:LI K t1 false vs tt)(hK:K tt=some (v,t'))(hg:tt.length=(Aw v).length+t'.length)(hc:As 44 t'=some t'')(hB:Bd v)(hl:t1.length<=900):LI K t1 false (vs++[v]) t'':=by
 have hlen:=h.len;obtain⟨_,h2,h3,h4⟩:=h;have e:t'=44::t'':=Cs.1 hc;refine⟨fun h=>Bool.noConfusion h,fun _=>?_,?_,?_⟩
 ·rw[h2 rfl];obtain⟨m,hm⟩:∃m,1000 - vs.length=m+1:=⟨999 - vs.length,by omega⟩
  rw[hm,show 1000 - (vs++[v]).length=m by simp;omega];conv=>lhs;unfold De
  rw[hK];simp only[hc];cases De K m t''<;>simp[Sk]
 ·rw[aA,Mw];simp[Ev,Du]at h3 ⊢;rw[e]at hg;simp at hg;omega
 intro x hx;rcases af.1 hx with hx|hx
 ·exact h4 x hx
 rw[ar]at hx;subst hx;exact hB
theorem LI.brk{K:List UInt8->Option (Vl × List UInt8)}{t1 tt t':List UInt8}{vs:List Vl}{v:Vl}{N:Nat}(h:LI K t1 false vs tt)(hx:∀x,K tt=some x->v=x.1/\t'=x.2)(hc:Bg [44] t' (K tt).isNone=none)(hB:Bd v)(hl:t1.length<=900)
  (hn:(Aw v).length+t'.length<=tt.length+8*N):LE K t1 false (vs++[v]) t' (K tt).isNone N:=by
 have hlen:=h.len;obtain⟨_,h2,h3,h4⟩:=h;refine⟨?_,?_,?_⟩
 ·rw[if_neg aL,h2 rfl];obtain⟨m,hm⟩:∃m,1000 - vs.length=m+1:=⟨999 - vs.length,by omega⟩
  rw[hm];unfold De;cases hk:K tt with
  |none=>rfl
  |some y=>
   obtain⟨e1,e2⟩:=hx y hk;obtain⟨y1,y2⟩:=y;simp only at e1 e2;subst e1 e2;rw[hk,Cp]at hc;simp only[Option.isNone_some,an,if_false]at hc ⊢;rw[hc];simp only;cases As 93 t'<;>simp[Sk]
 ·rw[aA,Mw];simp[Ev,Du]at h3 ⊢;omega
 intro x hx;rcases af.1 hx with hx|hx
 ·exact h4 x hx
 rw[ar]at hx;subst hx;exact hB
theorem LI.bad{K:List UInt8->Option (Vl × List UInt8)}{t1 tt:List UInt8}{vs:List Vl}{N:Nat}(h:LI K t1 true vs tt):LE K t1 true vs tt true N:=⟨by simp,by have:=h.2.2.1;omega,h.2.2.2⟩
theorem LE.fin{K:List UInt8->Option (Vl × List UInt8)}{t t1 tt:List UInt8}{b1 bb:Bool}{vs:List Vl}{N:Nat}(h:LE K t1 b1 vs tt bb N)(h1:t1=(Bg [91] t false).getD t)(hb1:b1=(Bg [91] t false).isNone)(h2:Bg [93] t1 b1=none):
  Xx K 1000 t=if (Bg [93] tt bb).isNone || decide (20<vs.length)then none else some (.mk 91 [] 0 vs,(Bg [93] tt bb).getD tt):=by
 obtain⟨h3,_,_⟩:=h;rw[Cp]at h1 hb1 h2 ⊢;simp only[an,if_false]at h1 hb1;unfold Xx;cases hy:As 91 t with
 |none=>
  rw[hy]at hb1;simp only[Option.isNone_none]at hb1;subst hb1;simp only[if_true]at h3;simp only;cases bb with
  |true=>simp
  |false=>
   simp only[an,if_false]at h3 ⊢;cases hz:As 93 tt with
   |none=>simp
   |some z=>rw[hz]at h3;cases h3
 |some r=>
  rw[hy]at h1 hb1;simp only[Option.isNone_some,Option.getD_some]at h1 hb1;subst h1 hb1;simp only[an,if_false]at h2 h3;simp only;rw[h2];simp only;rw[h3];cases bb with
  |true=>simp
  |false=>
   simp only[an,if_false];cases As 93 tt with
   |none=>simp
   |some z=>
    simp only[Option.isNone_some,Bool.false_or,decide_eq_true_eq,Option.getD_some];by_cases h:vs.length<=20
    ·rw[if_pos h,if_neg aI]
    rw[if_neg h,if_pos aI]
theorem Qc6(p:Value)(xs:List PT)(hok:∀y∈xs,Ek y.ty)(n:Nat)(k:Kd)(w:World)(hsc:To w p xs)(hk:Cw k)(hs:k.signs=[])(hb:k.base=[64])(x:PT)(hx:Fh xs k.name=some x)
  (hn:n<=9) (ih:x.ty.sort=85->∀f fs,x.ty.fields=f::fs->∀W,To W p xs->Calls prog 118 #[p,Fi f.kind] W (H4 (Dq (Ah xs) n f.kind) W)):
  Calls prog 118 #[p,Fi k] w (H4 (Dq (Ah xs) (n+1) k) w):=by
 have Hlen:=Aa (Ru (Ah xs) (fun t ht=>by obtain⟨y,hy,rfl⟩:=ay.1 ht;exact hok y hy))
 have HF:=Aa (show Dq (Ah xs) (n+1) k=if x.ty.sort=82 then[123,125]else match x.ty.fields with|[]=>[]|f::_=>if x.ty.sort=69 then 35::Az f.tag else 60::(Az f.tag++61::(Dq (Ah xs) n f.kind++[62]))from by
  rw[Dq,if_neg dJ,if_neg dJ,if_neg bI,if_neg bI,if_neg bI,Jr,hx];rfl)
 have hxm:=(Gy hx).1;have Hto:=Aa (hok _ hxm);have hnl:=Pi hk;have Hsc:=Aa hsc;obtain⟨pb,A,cc,mb,rfl,q0,q1,q2,q3,q4,htys,_⟩:=hsc;obtain⟨z0,_,z1,z2,z3,z4,A8,c,hz8,hl8',hrow8⟩:=htys x hxm;rw[hz8]at z3;have Hrow:=Aa hrow8;have Ih:=Aa ih
 have Hlk:=Aa (fun W (h:Below w w W)=>show (Instr.lookup 133 (.map (some mb)) k.name false).run prog W=.ok x.blk W from by
  have:=Fw (D5.below q4 h) k.name aI;rw[hx]at this;exact this)
 have hmb:=q4.lt;unfold Fi;rw[hs,hb];clear hk hs hb hx q1 q3 q4 htys hrow8 ih hok hz8 z2 z4 hxm;go_enter func118,ntmps118;go_wp2_with fail;refine(Ey _ _ _).mono ?_;rintro e w1 ⟨rfl,hb1⟩;obtain⟨hc1,_,hzz⟩:=Ci hb1;have y1:w1.cell? (w,1)=some (.string ⟨#[64]⟩):=(hc1 w 1 aK).trans aK;have y2:w1.cell? (w,2)=k.name:=(hc1 w 2 aK).trans aK;have Hb1:=@Aa (Below w w w1) (((Aq w.heap.size w).alloc (Al _) _).trans (hb1.mono aK));have hz1:w.heap.size<w1.heap.size:=fm;have m1:w1.cell? (pb,1)=some (.map (some mb)):=(Hb1.o.cell (p:=⟨pb,1,none⟩) q0).trans q2;have u0:w1.cell? (x.blk,0)=some (.int .u8 (x.ty.sort.toNat:Int)):=(Hb1.o.cell (p:=⟨x.blk,0,none⟩) z0).trans z1;have u2:w1.cell? (x.blk,2)=some (.slice A8 x.ty.fields.length c):=(Hb1.o.cell (p:=⟨x.blk,2,none⟩) z0).trans z3;have Hlook:=Aa (fun q=>Hlk.o (w1.drewN q) (Hb1.o.trans ((below_drewN (Aq _ _) q).mono Hb1.o.size)));clear hc1 hzz hb1 q2 z1 z3;go_wp2_with fail;refine Xa [20,21,22,23,24,25,26,5]
  (fun i v W=>match i with|0=>v=pb|1=>v=pb|2=>v=(pb,1)|3=>v=.map (some mb)|4=>v=(w,2)|5=>v=k.name|6=>v=x.blk|7=>v=x.blk|_=>True)
  (fun L U W=>∃q,W=w1.drewN q) (⟨1,rfl⟩) ?_ ?_
 ·repeat (first|exact Bb.nil|(refine Bb.cons ?_ ?_;rotate_left))
  all_goals
   rintro L U W hL hpre HR Hdep K hK;obtain⟨q,rfl⟩:=HR.o;have hlq:=Hlook.o q;first|(simp[Region.binds]at hpre;done)|simp[Region.binds]at hpre|clear hpre
  iterate 8
   ·exact fP
 rintro L U W hL hφ hR;have e7:U 7=x.blk:=hφ 7 aL;simp only[e7];clear hφ;obtain⟨q,rfl⟩:=hR;have Hbq:=Aa (Hb1.o.trans ((below_drewN (Aq w1.heap.size w1) q).mono Hb1.o.size));clear hL y1 y2 m1;by_cases h82:x.ty.sort=82
 ·have t82:((x.ty.sort.toNat:Int) == 82)=true:=Bv (d:=82) h82;have HF2:=Aa (HF.o.trans (if_pos h82));clear h82 HF;go_wp2_with fail;go_ret;exact⟨by rw[HF2.o];rfl,Hbq.o⟩
 have t82:((x.ty.sort.toNat:Int) == 82)=false:=At (d:=82) h82;have HF2:=Aa (HF.o.trans (if_neg h82));have hne:x.ty.fields≠[]:=fun h=>h82 (Hto.o.2.2.2.2 h);obtain⟨f,fs,hfs⟩:∃f fs,x.ty.fields=f::fs:=by
  cases h:x.ty.fields with
  |nil=>exact absurd h hne
  |cons f fs=>exact⟨f,fs,rfl⟩
 have hf0:0<x.ty.fields.length:=cG;have hge:x.ty.fields[0]=f:=by simp[hfs]
 have hft:=Hto.o.2.2.1.1 f cG;have htag:f.tag<=200:=hft.2.1;have hdl:=C9 2 f.tag ch;have Hd:=Aa (fun W=>M7 f.tag f.tag W (Al _) aI);have hi0:(0:Int)<(x.ty.fields.length:Int):=aI;have HF3:=@Aa (Dq (Ah xs) (n+1) k=if x.ty.sort=69 then 35::Az f.tag else 60::(Az f.tag++61::(Dq (Ah xs) n f.kind++[62]))) (by rw[HF2.o,hfs]);have Hfs:=Aa hfs;obtain⟨b,off,rfl,hbl,hrg⟩:=Qag.range Hrow.o hf0;rw[hge]at hrg;have hrq:=Ar hrg hbl Hbq.o;simp only[Nat.zero_mul,Nat.add_zero]at hrq;have g0:(w1.drewN q).cell? ⟨b,off,none⟩=(f.tag:Int):=by simpa using Ab hrq 0 rfl
 have G2:=Aa (Ab hrq 2 rfl);have G3:=Aa (Ab hrq 3 rfl);have G4:=Aa (Ab hrq 4 rfl);have H82:=Aa h82;clear HF2 HF h82 hne hfs hge hft hrg hrq;by_cases h69:x.ty.sort=69
 ·have t69:((x.ty.sort.toNat:Int) == 69)=true:=Bv (d:=69) h69;have HF4:=Aa (HF3.o.trans (if_pos h69));clear h69 HF3;go_wp2_with fail;refine(Hd.o _).mono ?_;rintro e w2 ⟨rfl,hb2⟩;go_wp2_with fail;go_ret;exact⟨by rw[HF4.o];simp,Hbq.o.trans (hb2.mono Hbq.o.size)⟩
 have t69:((x.ty.sort.toNat:Int) == 69)=false:=At (d:=69) h69;have HF4:=Aa (HF3.o.trans (if_neg h69));have h85:x.ty.sort=85:=by
  rcases Hto.o.1 with h|h|h
  ·exact absurd h H82.o
  ·exact h
  exact absurd h h69
 have Ih2:=Aa (Ih.o h85 f fs Hfs.o);unfold Fi at Ih2;have hsl:=Hlen.o n f.kind;generalize Dq (Ah xs) n f.kind=sl at *;clear h69 HF3 h85 Ih;go_wp2_with fail;obtain⟨W0,hW0⟩:∃W0,W0=w1.drewN q:=⟨_,rfl⟩
 rw[<-hW0]at Hbq g0 G2 G3 G4 ⊢;have Y2:=@Aa (W0.cell? (x.blk,2)=some (.slice (some ⟨b,off,none⟩) x.ty.fields.length c)) (by rw[hW0];exact u2);have Y0:=Aa g0;have Y3:=@Aa (W0.cell? ⟨b,off+2,none⟩=some (.string ⟨f.kind.signs.toArray⟩)) G2.o;have Y4:=@Aa (W0.cell? ⟨b,off+3,none⟩=some (.string ⟨f.kind.base.toArray⟩)) G3.o;have Y5:=@Aa (W0.cell? ⟨b,off+4,none⟩=some (.string ⟨f.kind.name.toArray⟩)) G4.o;have Hx5:=@Aa (x.blk<W0.heap.size) (ac z0 Hbq.o.size);have Hb5:=@Aa (b<W0.heap.size) (ac hbl Hbq.o.size);have Hsc0:=Aa (Hsc.o.below Hbq.o);clear hW0 g0 u0 u2;refine Xa [44,45,46,47,48,49,50,51,52,53,54,55,56,57,58,59,60,61,62,63,64,4]
  (fun i v W=>match i with|0=>v=x.blk|1=>v=x.blk|2=>v=(x.blk,2)|3=>v=.slice (some ⟨b,off,none⟩) x.ty.fields.length c|4=>v=.pointer (some ⟨b,off,none⟩)|5=>v=.pointer (some ⟨b,off,none⟩)|6=>v=(f.tag:Int)|7=>v=.string ⟨(Az f.tag).toArray⟩|8=>v=.string ⟨(60::Az f.tag).toArray⟩|9=>v=.string ⟨(60::(Az f.tag++[61])).toArray⟩|10=>v=pb|11=>v=x.blk|12=>v=x.blk|13=>v=(x.blk,2)|14=>v=.slice (some ⟨b,off,none⟩) x.ty.fields.length c|15=>v=.pointer (some ⟨b,off,none⟩)|16=>v=.pointer (some ⟨b,off+2,none⟩)|17=>v=.agg #[.string ⟨f.kind.signs.toArray⟩,.string ⟨f.kind.base.toArray⟩,.string ⟨f.kind.name.toArray⟩]|18=>v=.string ⟨(sl).toArray⟩|19=>v=.string ⟨(60::(Az f.tag++61::sl)).toArray⟩|20=>v=.string ⟨(60::(Az f.tag++61::(sl++[62]))).toArray⟩|21=>v=.string ⟨(60::(Az f.tag++61::(sl++[62]))).toArray⟩|_=>True)
  (fun L U W=>Below W0 W0 W) ((Aq _ _).drew) ?_ ?_
 ·repeat (first|exact Bb.nil|(refine Bb.cons ?_ ?_;rotate_left))
  all_goals
   rintro L U W hL hpre HR Hdep K hK;have hB:=HR.o;have c2:=(hB.cell (p:=⟨x.blk,2,none⟩) Hx5.o).trans Y2.o;have c0:=(hB.cell (p:=⟨b,off,none⟩) Hb5.o).trans Y0.o;have c3:=(hB.cell (p:=⟨b,off+2,none⟩) Hb5.o).trans Y3.o;have c4:=(hB.cell (p:=⟨b,off+3,none⟩) Hb5.o).trans Y4.o;have c5:=(hB.cell (p:=⟨b,off+4,none⟩) Hb5.o).trans Y5.o;have c4':W.cell? ⟨b,off+2+1,none⟩=_:=c4;have c5':W.cell? ⟨b,off+2+1+1,none⟩=_:=c5;have c5'':W.cell? ⟨b,off+2+2,none⟩=_:=c5;first|(simp[Region.binds]at hpre;done)|simp[Region.binds]at hpre|clear hpre
  iterate 7
   ·exact fP
  ·exact gL
  ·exact fV
  ·exact fV
  iterate 8
   ·exact fP
  ·exact gF
  ·exact fV
  ·exact fV
  ·exact fP
 rintro L U W hL hφ hR;have e21:U 21=.string ⟨(60::(Az f.tag++61::(sl++[62]))).toArray⟩:=hφ 21 aL;simp only[e21];clear hφ;have Hb9:=Aa (Hbq.o.trans (hR.mono Hbq.o.size));clear hR;go_wp2_with fail;go_ret;exact⟨by rw[HF4.o];rfl,Hb9.o⟩
theorem So(p:Value)(S:List Ty)(n:Nat)(k:Kd)(w:World)(hk:Cw k)(h:¬(k.signs=[]/\k.base=[64])):
  Calls prog 118 #[p,Fi k] w (H4 (Dq S (n+1) k) w):=by
 unfold Fi;cases hs:k.signs with
 |cons c t=>
  have hc:=Rz hk hs;have hl:=hk.2.2;unfold Be at hl;rw[hs]at hl;rw[Ql _ _ k c t hs hc];exact Qdi p c t _ _ w hc (by simp at hl;omega)
 |nil=>
  have hb:k.base≠[64]:=fun hb=>h ⟨hs,hb⟩;rw[Nf _ _ k hs (Nm hk hs hb).2];exact Zt p k.base _ w (Nm hk hs hb).2
theorem Qee(p:Value)(xs:List PT)(hok:∀x∈xs,Ek x.ty)(hS:G1 (Ah xs)):∀(n:Nat),n<=9->∀(k:Kd) (w:World),To w p xs->Cw k->Bu (Ah xs) k->Ts (Ah xs) n k ->
  Calls prog 118 #[p,Fi k] w (H4 (Dq (Ah xs) (n+1) k) w):=by
 intro n;induction n with
 |zero=>
  intro _ k w hsc hk hr he;refine So p _ 0 k w hk (fun h=>?_);obtain⟨t,_,h2⟩:=he h.1 h.2;exact absurd h2 (by simp[By])
 |succ n ih=>
  intro hn k w hsc hk hr he;by_cases hsb:k.signs=[]/\k.base=[64]
  ·obtain⟨hs,hb⟩:=hsb;have h1:=hr hb;rw[Jr]at h1;cases hx:Fh xs k.name with
   |none=>rw[hx]at h1;cases h1
   |some x=>
    have hft:B9 (Ah xs) k.name=some x.ty:=(Gy hx).2.2;have hto:Ek x.ty:=hok _ (Gy hx).1;refine Qc6 p xs hok (n+1) k w hsc hk hs hb x hx hn (fun h85 f fs hfs W hW=>?_);have hrf:Bu (Ah xs) f.kind:=hS x.ty (Bj hft).1 dA f cG;exact iR
  exact So p _ (n+1) k w hk hsb
theorem Qeh(p:Value)(xs:List PT)(h:Kt (Ah xs))(k:Kd)(w:World)(hsc:To w p xs)(hk:Cw k)(hr:Bu (Ah xs) k):
  Calls prog 118 #[p,Fi k] w (H4 (Vt (Ah xs) k) w):=
 Qee p xs (fun x hx=>h.1.1 x.ty (aq hx)) h.2.1 9 (Al _) k w hsc hk hr (Tt h hr)
theorem Qh1(p:Value)(xs:List PT)(h:Kt (Ah xs))(f:Fd)(b o:Nat)(w:World)(hsc:To w p xs)(hf:w.rangeAt b o (Tq f))(hk:Cw f.kind)(hr:Bu (Ah xs) f.kind)(hl:f.given.length<=1000):
  Calls prog 59 #[p,.pointer (some ⟨b,o,none⟩)] w (H4 (Kr (Ah xs) f) w):=by
 have HF:=@Aa (Kr (Ah xs) f=if f.given=[]then Vt (Ah xs) f.kind else f.given) rfl;have Hs:=Aa (fun W (h1:To W p xs)=>Qeh p xs h f.kind W h1 hk hr);have Hsc:=Aa hsc;unfold Fi at Hs;have c2:w.cell? ⟨b,o+2,none⟩=f.kind.signs:=Ab hf 2 rfl;have c3:w.cell? ⟨b,o+3,none⟩=f.kind.base:=Ab hf 3 rfl;have c4:w.cell? ⟨b,o+4,none⟩=f.kind.name:=Ab hf 4 rfl;have c5:w.cell? ⟨b,o+5,none⟩=f.given:=Ab hf 5 rfl;have c3':w.cell? ⟨b,o+2+1,none⟩=f.kind.base:=c3;have c4':w.cell? ⟨b,o+2+1+1,none⟩=f.kind.name:=c4;have c4'':w.cell? ⟨b,o+2+2,none⟩=f.kind.name:=c4;clear h hk hr hsc hf;by_cases hg:f.given=[]
 ·have HF2:=Aa (HF.o.trans (if_pos hg));rw[hg]at c5;clear hg HF;go_enter func59,ntmps59;go_wp2_with fail;refine(Hs.o _ Hsc.o).mono ?_;rintro e w1 ⟨rfl,hb1⟩;go_wp2_with fail;go_ret;exact⟨by rw[HF2.o];rfl,hb1⟩
 have HF2:=Aa (HF.o.trans (if_neg hg));have t1:f.given.isEmpty=false:=by simpa using hg
 have t2:(!f.given.isEmpty)=true:=by simp[t1]
 clear hg HF;go_enter func59,ntmps59;go_wp2_with fail;go_ret;exact⟨by rw[HF2.o];rfl,Aq _ _⟩
def Qt(w:World)(b:Nat)(p:Value)(R:Nat)(t:List UInt8)(bad:Bool)(W:World):Prop:=D2 w b p t bad W/\W.there R 0 4/\w.heap.size<=R/\R<W.heap.size
theorem Qt.post{w W W':World}{b R:Nat}{p:Value}{t:List UInt8}{bad:Bool}(h:Qt w b p R t bad W)(hb:Below W W W'):Qt w b p R t bad W':=
 ⟨h.1.post hb,An h.2.1 h.2.2.2 hb,h.2.2.1,ac h.2.2.2 hb.size⟩
theorem Qt.step{w W W':World}{b R:Nat}{p:Value}{t t':List UInt8}{bad bad':Bool}(h:Qt w b p R t bad W)(hb:b<w.heap.size)(hs:D2 W b p t' bad' W'):Qt w b p R t' bad' W':=
 ⟨h.1.trans hs,Dn h.2.1 hs.2 h.2.2.2 (by have:=h.2.2.1;simp;omega),h.2.2.1,ac h.2.2.2 hs.2.size⟩
theorem D2.app{w W W':World}{b:Nat}{p:Value}{t:List UInt8}{bad:Bool}{row:Option Nat}(h:D2 w b p t bad W)(hb:b<w.heap.size)(hg:W.grownBy W' row)(hr:∀k,row=some k->w.heap.size<=k):D2 w b p t bad W':=by
 have hn:∀c,c<w.heap.size->some c≠row:=fun c hc e=>by have:=hr c e.symm;omega
 obtain⟨⟨h0,h1,h2,h3,h4⟩,hg0⟩:=h;exact⟨⟨ac h0 hg.size,h1.grown h0 hg (hn b hb),hg.cell h2 (hn b hb),hg.cell h3 (hn b hb),hg.cell h4 (hn b hb)⟩,⟨hg.os.trans hg0.os,hg.tape.trans hg0.tape,hg.output.trans hg0.output,ad hg0.size hg.size,fun k hk hne=>(hg.block k (ac hk hg0.size) (hn k hk)).trans (hg0.block k hk hne)⟩⟩
theorem Qt.app{w W W':World}{b R:Nat}{p:Value}{t:List UInt8}{bad:Bool}{row:Option Nat}(h:Qt w b p R t bad W)(hb:b<w.heap.size)(hg:W.grownBy W' row)(hr:∀k,row=some k->R<k):Qt w b p R t bad W':=
 ⟨h.1.app hb hg fun k e=>by have:=hr k e;have:=h.2.2.1;omega,Dn h.2.1 hg h.2.2.2 (fun e=>by have:=hr R e.symm;omega),h.2.2.1,ac h.2.2.2 hg.size⟩
theorem Qt.fin{w W w9:World}{b R:Nat}{p:Value}{t:List UInt8}{bad:Bool}{v:Vl}{sl:Value}(F:Qt w b p R t bad W)(hb:b<w.heap.size)(HS:w9=W.setCells R 0 (Ew v sl))(hv:Eb (fun c=>R<c) W sl v.kids):
  Eb (fun c=>w.heap.size<=c) w9 sl v.kids/\D2 w b p t bad w9/\w9.rangeAt R 0 (Ew v sl):=by
 subst HS;have:=F.2.2.1;exact⟨(hv.set (B:=R) aI _).mono fun c hc _=>by omega,F.1.set aI aI _,aa _ _ _ _ F.2.1⟩
def Qpj(w0 w:World)(b:Nat)(p:Value)(t:List UInt8)(N:Nat)(fs:List Fd)(r:Option ((Fd × Vl) × List UInt8))(e:Ending)(w':World):Prop:=
 ∃(v:Vl) (sl fp:Value) (t':List UInt8),e=.returned (.tuple #[Gf v sl,fp])/\Eb (fun c=>w.heap.size<=c) w' sl v.kids/\D2 w b p t' r.isNone w'/\Bd v/\t'.length<=t.length/\(Aw v).length+t'.length<=t.length+8*N /\
  ((fp=.pointer none/\r=none)\/∃g x,Kf w0.heap.size w' fp (some g)/\v=Ea (g,x)/\Ap fs g.tag=some g/\Bd x/\∀y,r=some y->y=((g,x),t'))
theorem Kf.via{B:Nat}{w0 W W':World}{v:Value}{o:Option Fd}(h:Kf B W v o)(h1:Below B w0 W)(h2:Below B w0 W'):Kf B W' v o:=by
 cases o with
 |none=>exact h
 |some f=>
  obtain⟨b,o,e,hb,hr⟩:=h;exact⟨b,o,e,hb,fun j u hu=>(h2.cell (p:=⟨b,o+j,none⟩) hb).trans ((h1.cell (p:=⟨b,o+j,none⟩) hb).symm.trans (hr j u hu))⟩
theorem Qd2(fs:List Fd)(t:List UInt8):Gs fs t=if H6 200 t then(Ap fs (Js t)).map (fun f=>(f,t.dropWhile Bh))else none:=by
 unfold Gs;rw[Qey];unfold H6 Js;cases h:Cx (t.takeWhile Bh)with
 |none=>simp
 |some n=>
  have:=(Bw.1 h).1;simp only[decide_eq_true_eq,this,if_true,Option.getD_some];by_cases h2:n<=200
  ·rw[if_pos h2,if_pos h2];cases Ap fs n<;>rfl
  rw[if_neg h2,if_neg h2]
theorem Qjh(K:Kd->List UInt8->Option (Vl × List UInt8))(fs:List Fd)(t:List UInt8):Dh K fs t=match Ap fs (Js t)with
  |none=>none
  |some f=>match Bg [61] (t.dropWhile Bh) (!H6 200 t)with
   |none=>none
   |some q=>match K f.kind q with|some (v,z)=>some ((f,v),z)|none=>none:=by
 unfold Dh;rw[Qd2];simp only[Cp];cases H6 200 t<;>cases Ap fs (Js t)<;>simp
 rfl
theorem Qmq(t:List UInt8)(h:H6 200 t=true):(Az (Js t)).length+(t.dropWhile Bh).length=t.length:=by
 unfold H6 at h;unfold Js;cases hd:Cx (t.takeWhile Bh)with
 |none=>rw[hd]at h;cases h
 |some n=>
  have e:=(Bw.1 hd).2;simp only[Option.getD_some];rw[<-e,<-ah,List.takeWhile_append_dropWhile]
theorem Qe5(w0:World)(b N:Nat)(p:Value)(S:List Ty)(x:PT)(hx:Tc w0 x)(t:List UInt8)(w:World)(hw:Below w0 w0 w)(hb:w0.heap.size<=b)(bad:Bool)(h:G0 w b p t bad)(hl:t.length<=900)(hN:bad=false->t.length<=N)(hN2:N<=2000)
  (htg:∀f∈x.ty.fields,f.tag<=200) (H:∀f∈x.ty.fields,IvC w0 b p S N f.kind) (q:Option ((Fd × Vl) × List UInt8)) (hq:q=if bad then none else Dh (Am S 1000 N) x.ty.fields t):
  Calls prog 198 #[b,x.blk] w (Qpj w0 w b p t N x.ty.fields q):=by
 have HQ:=Aa (hq.trans (by rw[Qjh]));have Hnl:=Aa (Qmq t);have HS:=Aa h;have HW:=Aa hw;have hb0:=h.1;have hbn:¬(b=w.heap.size):=aI;have hnn:=Qb6 t;have hdr:=Qci Bh t;have Hn:=Aa (fun W (h:G0 W b p t bad)=>Qd b 200 p t bad W h aI aL);have Hf:=Aa (fun W (hW:Below w0 w0 W)=>Mj w0 x hx (Js t) W hW aI);have hxb:x.blk<w0.heap.size:=hx.1;clear h hw hq;obtain⟨b1,hb1⟩:∃b1,b1=(bad || !H6 200 t):=⟨_,rfl⟩
 have Hb1:=Aa hb1;rw[<-hb1]at Hn;generalize t.dropWhile Bh=t1 at *;have hm:=Ff 61 t1 b1;have Hwt:=Aa (fun W (h:G0 W b p t1 b1)=>Dx b p t1 [61] b1 W h aI);have Hlt0:=Aa (fun r (h:Bg [61] t1 b1=some r)=>Kj h);clear hb1;cases hfo:Ap x.ty.fields (Js t)with
 |none=>
  rw[hfo]at Hf HQ;have hq0:=@Aa (q=none) (by have:=HQ.o;cases bad<;>simpa using this);generalize Js t=n at *;generalize (Bg [61] t1 b1).getD t1=t2 at *;generalize (Bg [61] t1 b1).isNone=b2 at *;clear hfo HQ Hnl;go_enter func198,ntmps198;go_wp2_with fail;have F0:=@Aa (Qt w b p w.heap.size t bad (w.alloc (.cells #[.int .u8 0,a6,.int .i64 0,.slice none 0 0] 68))) ⟨⟨HS.o.grow ((Aq _ _).alloc (Al _) _),Cd ((Aq _ _).alloc (Al _) _) _⟩,Cu w [.int .u8 0,a6,.int .i64 0,.slice none 0 0] _,Al _,by simp⟩;refine(Hn.o _ F0.o.1.1).mono ?_;rintro e w2 ⟨rfl,hs2⟩;have F2:=Aa (F0.o.step hb0 hs2);clear hs2;go_wp2_with fail;refine(Hf.o _ (F2.o.1.env HW.o hb)).mono ?_;rintro e w3 ⟨fp,rfl,hfp,rfl⟩;have hfp':fp=.pointer none:=hfp;subst hfp';go_wp2_with fail;refine(Hwt.o _ F2.o.1.1).mono ?_;rintro e w4 ⟨rfl,hs4⟩;have F4:=Aa (F2.o.step hb0 hs4);clear hs4;have sb:=F4.o.1.1.2.1.live 2;have s0:=F4.o.1.1.1;have s2:=F4.o.1.1.2.2.2.2;have F5:=Aa (F4.o.step hb0 ⟨F4.o.1.1.setBad true,Ai _ b 2 (.bool true)⟩);go_wp2_with ((with_reducible refine Ac (op:=⟨none,.store 68 _ _,_,_,_,none⟩) rfl 68 _ _ rfl w 0 [.int .u8 0,a6,.int .i64 0,.slice none 0 0] ?_ ?_ ?_ ?_ ?_ ?_);rfl;rfl;(exact F5.o.2.1);kernel_rfl;(simp[Value.oneCell']);intro w9 HS9)
  have Z:=Qt.fin (v:=Eu) (sl:=.slice none 0 0) F5.o hb0 HS9.o (Eb.nil _ _);refine aG (v:=.tuple #[.agg (Ew Eu (.slice none 0 0)).toArray,.pointer none]) (Au results198 _ _ w.heap.size _ _ _ rfl rfl Z.2.2 underlying68 rfl aN) rfl ?_;exact⟨Eu,.slice none 0 0,.pointer none,t2,rfl,Z.1,by rw[hq0.o];exact Z.2.1,Ft aL aL,by omega,by simp[Eu,Aw,Di,Gl];omega,.inl ⟨rfl,hq0.o⟩⟩
 |some g=>
  obtain⟨hgt,hgm⟩:=Ay hfo;have hg2:=htg g hgm;have Hfg:=Aa (show Ap x.ty.fields g.tag=some g by rw[hgt];exact hfo);rw[hfo]at Hf HQ;simp only at HQ;have HH:=Aa (H g hgm);cases hc:Bg [61] t1 b1 with
  |none=>
   have hq0:=Aa (show q=none from by
    rw[HQ.o];cases bad with
    |true=>rfl
    |false=>rw[if_neg aL];rw[show Bg [61] t1 (!H6 200 t)=none by have:=Hb1.o;rw[Bool.false_or]at this;rw[<-this];exact hc])
   rw[hc]at Hwt;simp only[Option.isNone_none,Option.getD_none]at Hwt;generalize Js t=n at *;clear hfo HQ Hnl hc hm;subst hgt;obtain⟨b2,hb2⟩:∃b2,b2=true:=⟨_,rfl⟩
   rw[<-hb2]at Hwt;go_enter func198,ntmps198;go_wp2_with fail;have F0:=@Aa (Qt w b p w.heap.size t bad (w.alloc (.cells #[.int .u8 0,a6,.int .i64 0,.slice none 0 0] 68))) ⟨⟨HS.o.grow ((Aq _ _).alloc (Al _) _),Cd ((Aq _ _).alloc (Al _) _) _⟩,Cu w [.int .u8 0,a6,.int .i64 0,.slice none 0 0] _,Al _,by simp⟩;refine(Hn.o _ F0.o.1.1).mono ?_;rintro e w2 ⟨rfl,hs2⟩;have F2:=Aa (F0.o.step hb0 hs2);clear hs2;go_wp2_with fail;refine(Hf.o _ (F2.o.1.env HW.o hb)).mono ?_;rintro e w3 ⟨fp,rfl,hfp,rfl⟩;obtain⟨fb,fo,rfl,hfb,hfr⟩:=hfp;go_wp2_with fail;refine(Hwt.o _ F2.o.1.1).mono ?_;rintro e w4 ⟨rfl,hs4⟩;have F4:=Aa (F2.o.step hb0 hs4);clear hs4;have sb:=F4.o.1.1.2.1.live 2;have s0:=F4.o.1.1.1;have s2:=F4.o.1.1.2.2.2.2;have F5:=Aa (F4.o.step hb0 ⟨F4.o.1.1.setBad true,Ai _ b 2 (.bool true)⟩);subst hb2;go_wp2_with ((with_reducible refine Ac (op:=⟨none,.store 68 _ _,_,_,_,none⟩) rfl 68 _ _ rfl w 0 [.int .u8 0,a6,.int .i64 0,.slice none 0 0] ?_ ?_ ?_ ?_ ?_ ?_);rfl;rfl;(exact F5.o.2.1);kernel_rfl;(simp[Value.oneCell']);intro w9 HS9)
   have Z:=Qt.fin (v:=Eu) (sl:=.slice none 0 0) F5.o hb0 HS9.o (Eb.nil _ _);refine aG (v:=.tuple #[.agg (Ew Eu (.slice none 0 0)).toArray,.pointer none]) (Au results198 _ _ w.heap.size _ _ _ rfl rfl Z.2.2 underlying68 rfl aN) rfl ?_;exact⟨Eu,.slice none 0 0,.pointer none,t1,rfl,Z.1,by rw[hq0.o];exact Z.2.1,Ft aL aL,by omega,by simp[Eu,Aw,Di,Gl];omega,.inl ⟨rfl,hq0.o⟩⟩
  |some t2=>
   have hlt:=Hlt0.o t2 hc;have hbb:bad=false/\b1=false/\H6 200 t=true:=by
    have h1:b1=false:=by
     cases b1 with
     |false=>rfl
     |true=>rw[Cp]at hc;simp at hc
    have h2:=Hb1.o;rw[h1]at h2;cases bad<;>cases hnb:H6 200 t<;>simp[hnb]at h2 ⊢
    exact h1
   obtain⟨rfl,rfl,hnb⟩:=hbb;have hnl:=Hnl.o hnb;rw[hgt.symm]at hnl
   have hq0:=Aa (show q=(match Am S 1000 N g.kind t2 with|some (v,z)=>some ((g,v),z)|none=>none)from by
    rw[HQ.o,if_neg aL,hnb];show (match Bg [61] t1 false with|none=>none|some q=>match Am S 1000 N g.kind q with|some (v,z)=>some ((g,v),z)|none=>none)=_;rw[hc])
   rw[hc]at Hwt;simp only[Option.isNone_some,Option.getD_some]at Hwt;have h2N:t2.length<N:=by have:=hN rfl;omega
   generalize Js t=n at *;clear hfo HQ Hnl hc hm Hb1 hnb Hlt0;subst hgt;go_enter func198,ntmps198;go_wp2_with fail;have F0:=@Aa (Qt w b p w.heap.size t false (w.alloc (.cells #[.int .u8 0,a6,.int .i64 0,.slice none 0 0] 68))) ⟨⟨HS.o.grow ((Aq _ _).alloc (Al _) _),Cd ((Aq _ _).alloc (Al _) _) _⟩,Cu w [.int .u8 0,a6,.int .i64 0,.slice none 0 0] _,Al _,by simp⟩;refine(Hn.o _ F0.o.1.1).mono ?_;rintro e w2 ⟨rfl,hs2⟩;have F2:=Aa (F0.o.step hb0 hs2);clear hs2;go_wp2_with fail;refine(Hf.o _ (F2.o.1.env HW.o hb)).mono ?_;rintro e w3 ⟨fp,rfl,hfp,rfl⟩;obtain⟨fb,fo,rfl,hfb,hfr⟩:=hfp;go_wp2_with fail;refine(Hwt.o _ F2.o.1.1).mono ?_;rintro e w4 ⟨rfl,hs4⟩;have F4:=Aa (F2.o.step hb0 hs4);clear hs4;have HFR:=@Aa (Kf w0.heap.size w4 (.pointer (some ⟨fb,fo,none⟩)) (some g)) (Kf.via ⟨fb,fo,rfl,hfb,hfr⟩ (F2.o.1.env HW.o hb) (F4.o.1.env HW.o hb));have G4:=@Aa (w4.rangeAt fb fo (Tq g)) (by obtain⟨a1,a2,a3,_,a5⟩:=HFR.o;injection a3 with a3;injection a3 with a3;injection a3 with a3 a4;subst a3 a4;exact a5);have s2:=F4.o.1.1.2.2.2.2;have g2:=Ab G4.o 2 rfl;have g3:=Ab G4.o 3 rfl;have g4:=Ab G4.o 4 rfl;have g3':w4.cell? ⟨fb,fo+2+1,none⟩=g.kind.base:=g3;have g4':w4.cell? ⟨fb,fo+2+1+1,none⟩=g.kind.name:=g4;have g4'':w4.cell? ⟨fb,fo+2+2,none⟩=g.kind.name:=g4;clear hfr;have HV:=Aa (fun W (h1:Below w0 w0 W) (h2:G0 W b p t2 false)=>HH.o t2 false W h1 h2 aI (fun _=>h2N));unfold Fi at HV;simp only[an,if_false]at HV;go_wp2_with fail;refine(HV.o _ (F4.o.1.env HW.o hb) F4.o.1.1).mono ?_;rintro e w5 ⟨v,sl,t',rfl,hk5,hs5,hx5,hB5,hl5,hn5⟩;obtain⟨A7,c7,rfl⟩:=hk5.form;have F5:=Aa (F4.o.step hb0 hs5);have Hk5:=Aa hk5;have Hx5:=Aa hx5;have HB5:=Aa hB5;have hz4:=F4.o.2.2.2;clear hs5 hk5 hx5 hB5 g2 g3 g4 g3' g4' g4'' s2;unfold Gf;go_wp2_with fail;obtain⟨W6,hW6⟩:∃W6,W6=w5.alloc (.cells #[.int .u8 (v.what.toNat:Int),v.text,(v.tag:Int),.slice A7 v.kids.length c7] 68):=⟨_,rfl⟩
   rw[<-hW6];have hb6:Below w5 w5 W6:=by rw[hW6];exact(Aq _ _).alloc (Al _) _
   have F6:=Aa (F5.o.post hb6);have HP6:=Aa (HFR.o.via (F4.o.1.env HW.o hb) (F6.o.1.env HW.o hb));have X6:=@Aa (W6.rangeAt w5 0 [.int .u8 (v.what.toNat:Int),v.text,(v.tag:Int),.slice A7 v.kids.length c7]) (by rw[hW6];exact Br w5 [.int .u8 (v.what.toNat:Int),v.text,(v.tag:Int),.slice A7 v.kids.length c7] _);have Hk6:=Aa (Hk5.o.after hb6);have hz6:w5.heap.size<W6.heap.size:=by rw[hW6];simp
   have HW6:=Aa (F6.o.1.env HW.o hb);have hz5:=F5.o.2.2.2;generalize w5.heap.size=B7 at *;clear hW6 hb6;have D0:=@Aa (W6.cell? ⟨fb,fo,none⟩=(g.tag:Int)) (by obtain⟨a1,a2,a3,_,a5⟩:=HP6.o;injection a3 with a3;injection a3 with a3;injection a3 with a3 a4;subst a3 a4;simpa using Ab a5 0 rfl);refine Bm [32,33,34,35,36,37,38,39,999,5] aN aN aN (fun u=>by dsimp only[Bl,Bk,List.set,am,Nat.reduceAdd])
    (fun ix u W=>match ix with|0=>u=.pointer (some ⟨fb,fo,none⟩)|1=>u=.pointer (some ⟨fb,fo,none⟩)|2=>u=.pointer (some ⟨fb,fo,none⟩)|3=>u=(g.tag:Int)|4=>u=.agg #[.int .u8 (v.what.toNat:Int),v.text,(v.tag:Int),.slice A7 v.kids.length c7]|5=>∃c,u=.slice (some ⟨c,0,none⟩) 1 1|6=>∃c,u=.agg #[.int .u8 61,a6,(g.tag:Int),.slice (some ⟨c,0,none⟩) 1 1]|7=>u=.pointer (some ⟨fb,fo,none⟩)|9=>u=.pointer (some ⟨fb,fo,none⟩)|_=>True)
    (fun L U W=>(L 8=false->Below W6 W6 W)/\(L 5=true->L 8=false->∃W7,W=W7.alloc (.cells (Ps (v,.slice A7 v.kids.length c7)).toArray 68)/\U 5=.slice (some ⟨W7.heap.size,0,none⟩) 1 1/\Below W6 W6 W7)/\(L 6=true->U 6=.agg #[.int .u8 61,a6,(g.tag:Int),U 5]) /\
  (L 8=true->∃W7,W=(W7.alloc (.cells (Ps (v,.slice A7 v.kids.length c7)).toArray 68)).setCells w 0 [.int .u8 61,a6,(g.tag:Int),.slice (some ⟨W7.heap.size,0,none⟩) 1 1]/\Below W6 W6 W7)) (fun _ _=>True) (fun _ _ _ _ _ h=>h) (⟨fun _=>(Aq _ _).drew,fun h=>Bool.noConfusion h,fun h=>Bool.noConfusion h,fun h=>Bool.noConfusion h⟩) ?_ ?_
   ·repeat (first|exact Bb.nil|(refine Bb.cons ?_ ?_;rotate_left))
    all_goals
     rintro L U W hL hpre hR hun hdep K hK;have HR:=Aa hR;obtain⟨R1,R2,R3,R4⟩:=HR.o;have Hdep:=Aa hdep;clear hun hdep hR;first|(simp[Region.binds]at hpre;done)|simp[Region.binds]at hpre|clear hpre
    iterate 3
     ·exact fP
    ·have h6:L 6=false:=Ct Hdep.o 6 3 rfl hL;have h8:L 8=false:=Ct Hdep.o 8 6 rfl h6;have m0:=((R1 h8).cell (p:=⟨fb,fo,none⟩) (by have:=HW6.o.size;show fb<_;omega)).trans D0.o;exact jd
    ·have h5:L 5=false:=Ct Hdep.o 5 4 rfl hL;have h6:L 6=false:=Ct Hdep.o 6 5 rfl h5;have h8:L 8=false:=Ct Hdep.o 8 6 rfl h6;have m0:=((R1 h8).cell (p:=⟨B7,0,none⟩) hz6).trans (X6.o 0 _ rfl);have m1:=((R1 h8).cell (p:=⟨B7,1,none⟩) hz6).trans (X6.o 1 _ rfl);have m2:=((R1 h8).cell (p:=⟨B7,2,none⟩) hz6).trans (X6.o 2 _ rfl);have m3:=((R1 h8).cell (p:=⟨B7,3,none⟩) hz6).trans (X6.o 3 _ rfl);exact jd
    ·have h6:L 6=false:=Ct Hdep.o 6 5 rfl hL;have h8:L 8=false:=Ct Hdep.o 8 6 rfl h6;have hba:Below W W (W.alloc (.cells (Ps (v,.slice A7 v.kids.length c7)).toArray 68)):=(Aq _ _).alloc (Al _) _;have u4:=hpre.2;go_simp;exact hK (.slice (W,0) 1 1) _ _ ⟨W.heap.size,rfl⟩ Ae ⟨fun _=>(R1 h8).trans (hba.mono (R1 h8).size),fun _ _=>⟨W,rfl,rfl,R1 h8⟩,fun h=>absurd (h6.symm.trans aU) aL,fun h=>absurd (h8.symm.trans aU) aL⟩ aJ
    ·obtain⟨c,u5⟩:=hpre.2.2;have u3:=hpre.1.2;go_simp;exact hK (.agg #[.int .u8 61,a6,(g.tag:Int),U 5]) _ _ ⟨c,by rw[u5]⟩ Ae ⟨R1,R2,fun _=>rfl,fun h=>R4 aU⟩ (by simp[Act.put,u3,u5])
    ·exact fP
    ·obtain⟨⟨l6,_⟩,_⟩:=hpre;have u6:=R3 l6;have l5:L 5=true:=by
      cases h5:L 5 with
      |true=>rfl
      |false=>exact absurd (l6.symm.trans (Ct Hdep.o 6 5 rfl h5)) aL
     obtain⟨W7,rfl,u5,hb7⟩:=R2 l5 hL;rw[u5]at u6;rw[if_pos dm];refine wp_store_mid 68 _ _ rfl w 0 ([.int .u8 61,a6,(g.tag:Int),.slice (some ⟨W7.heap.size,0,none⟩) 1 1]:List Value).toArray rfl u6 ((F6.o.post hb7).post ((Aq _ _).alloc (Al _) _)).2.1 aN bL ?_;exact hK undef _ _ Ae Ae ⟨fun h=>by simp at h,fun _ h=>by simp at h,fun _=>by show U 6=.agg #[.int .u8 61,a6,(g.tag:Int),U 5];rw[u5];exact u6,fun _=>⟨W7,rfl,hb7⟩⟩ rfl
    ·clear R1 R2 R3 R4;go_simp;exact hK (.pointer (some ⟨fb,fo,none⟩)) _ _ rfl Ae HR.o aJ
   rintro L U W hL hφ hR;have hφ9:=hφ 9 aL;clear hφ;have e9:U 9=.pointer (some ⟨fb,fo,none⟩):=hφ9;obtain⟨_,_,_,h4⟩:=hR;obtain⟨W7,rfl,hb7⟩:=h4 (hL 8 aL);clear hL h4;simp only[e9];clear hφ9;go_wp2_with fail;have F7:=Aa (F6.o.post hb7);have Hk7:=Aa (Hk6.o.after hb7);have hz7:=F7.o.2.2.2;have Z:=Qt.fin (v:=Ea (g,v)) (sl:=.slice (some ⟨W7.heap.size,0,none⟩) 1 1) (F7.o.post ((Aq _ _).alloc (Al _) (.cells (Ps (v,.slice A7 v.kids.length c7)).toArray 68))) hb0 rfl (Hk7.o.one (T:=68) (fun c hc _=>by omega) aI);have HPz:=HP6.o.via (F6.o.1.env HW.o hb) (Z.2.1.env HW.o hb);refine aG (v:=.tuple #[.agg (Ew (Ea (g,v)) (.slice (some ⟨W7.heap.size,0,none⟩) 1 1)).toArray,.pointer (some ⟨fb,fo,none⟩)]) (Au results198 _ _ w.heap.size _ _ _ rfl rfl Z.2.2 underlying68 rfl aN) rfl ?_;have hx9:=Hx5.o;refine⟨Ea (g,v),_,_,t',rfl,Z.1,?_,.mk (show g.tag<=1000000000 by omega) dT aK (fun y hy=>by rw[ar]at hy;subst hy;exact HB5.o),by omega,by rw[Jo];simp only;omega,.inr ⟨g,v,HPz,rfl,Hfg.o,HB5.o,?_⟩⟩
   ·have e:q.isNone=(Am S 1000 N g.kind t2).isNone:=by rw[hq0.o];cases Am S 1000 N g.kind t2<;>rfl
    rw[e];exact Z.2.1
   intro y hy;rw[hq0.o]at hy;cases hr:Am S 1000 N g.kind t2 with
   |none=>rw[hr]at hy;cases hy
   |some z=>
    obtain⟨z1,z2⟩:=z;rw[hr]at hy;simp only[aj]at hy;obtain⟨e1,e2⟩:=hx9 _ hr;simp only at e1 e2;rw[<-hy,e1,e2]
structure Vb(B:Nat)(W:World)(h0 h1 h2 h3:Value):Prop where
 lt:B<W.heap.size
 bk:Qk W B
 c0:W.cell? (B,0)=some h0
 c1:W.cell? (B,1)=some h1
 c2:W.cell? (B,2)=some h2
 c3:W.cell? (B,3)=some h3
theorem Vb.new{w:World}{h0 h1 h2 h3:Value}{T:TypeId}:Vb w.heap.size (w.alloc (.cells #[h0,h1,h2,h3] T)) h0 h1 h2 h3:=⟨by simp,Qk.new _ _ _,by simp,by simp,by simp,by simp⟩
theorem Vb.grown{B:Nat}{W W':World}{h0 h1 h2 h3:Value}{row:Option Nat}(h:Vb B W h0 h1 h2 h3)(hg:W.grownBy W' row)(hn:some B≠row):Vb B W' h0 h1 h2 h3:=
 ⟨ac h.lt hg.size,h.bk.grown h.lt hg hn,hg.cell h.c0 hn,hg.cell h.c1 hn,hg.cell h.c2 hn,hg.cell h.c3 hn⟩
theorem Vb.after{B:Nat}{W W':World}{h0 h1 h2 h3:Value}(h:Vb B W h0 h1 h2 h3)(hb:Below W W W'):Vb B W' h0 h1 h2 h3:=h.grown (Cd hb none) aK
theorem Vb.set2{B:Nat}{W:World}{h0 h1 h2 h3:Value}(h:Vb B W h0 h1 h2 h3)(v:Value):Vb B (W.setCell ⟨B,2,none⟩ v) h0 h1 v h3:=by
 have hf:=h.bk.live 2;exact⟨by simpa using h.lt,h.bk.set _,by simp[go_sem,h.c0],by simp[go_sem,h.c1],by simp[go_sem,h.c2,hf],by simp[go_sem,h.c3]⟩
theorem Vb.set3{B:Nat}{W:World}{h0 h1 h2 h3:Value}(h:Vb B W h0 h1 h2 h3)(v:Value):Vb B (W.setCell ⟨B,3,none⟩ v) h0 h1 h2 v:=by
 have hf:=h.bk.live 3;exact⟨by simpa using h.lt,h.bk.set _,by simp[go_sem,h.c0],by simp[go_sem,h.c1],by simp[go_sem,h.c2],by simp[go_sem,h.c3,hf]⟩
theorem Qt.init{w:World}{b:Nat}{p:Value}{t:List UInt8}{bad:Bool}(h:G0 w b p t bad){T:TypeId}:Qt w b p w.heap.size t bad (w.alloc (.cells #[.int .u8 0,a6,.int .i64 0,.slice none 0 0] T)):=
 ⟨⟨h.grow ((Aq _ _).alloc (Al _) _),Cd ((Aq _ _).alloc (Al _) _) _⟩,Cu w [.int .u8 0,a6,.int .i64 0,.slice none 0 0] _,Al _,by simp⟩
theorem Qn6(fs:List Fd)(t:List UInt8)(t1 t2:List UInt8)(b1 b2:Bool)(h1:t1=(Bg [35] t false).getD t)(hb1:b1=(Bg [35] t false).isNone)(h2:t2=t1.dropWhile Bh)(hb2:b2=(b1 || !H6 200 t1)):
  (match As 35 t with
   |none=>none
   |some r=>match Gs fs r with|some (f,q)=>some (Vl.mk 69 [] f.tag [],q)|none=>none)=if b2 || (Ap fs (Js t1)).isNone then none else some (.mk 69 [] (Js t1) [],t2):=by
 rw[Cp]at h1 hb1;simp only[an,if_false]at h1 hb1;cases hy:As 35 t with
 |none=>rw[hy]at hb1;simp at hb1;subst hb1 hb2;simp
 |some r=>
  rw[hy]at h1 hb1;simp at h1 hb1;subst h1 hb1 h2 hb2;simp only[Qd2];cases H6 200 t1 with
  |false=>simp
  |true=>
   simp only[if_true,Bool.false_or,Bool.not_true];cases hf:Ap fs (Js t1)with
   |none=>simp
   |some f=>have:=(Ay hf).1;simp[this]
theorem Qls(w0:World)(b N:Nat)(p:Value)(S:List Ty)(x:PT)(hx:Tc w0 x)(h9:x.ty.sort=69)(t:List UInt8)(w:World)(hw:Below w0 w0 w)(hb:w0.heap.size<=b)(h:G0 w b p t false)(hl:t.length<=900)
  (q:Option (Vl × List UInt8)) (hq:q=Kp S (Am S 1000 N) x.ty t):
  Calls prog 143 #[b,x.blk] w (Ma w b p t (N+1) q):=by
 have HQ:=Aa (hq.trans (by unfold Kp;rw[if_pos h9]));have HS:=Aa h;have HW:=Aa hw;have hb0:=h.1;have hx0:=hx.1;have x0:=(hw.cell (p:=⟨x.blk,0,none⟩) hx0).trans hx.2.2.1;have hxw:x.blk<w.heap.size:=eZ;have hxn:¬(x.blk=w.heap.size):=eZ;have hxn2:¬(x.blk=w.heap.size+1):=eZ;rw[h9]at x0;have x0':w.cell? (x.blk,0)=some (.int .u8 69):=x0;clear x0;have hm:=Ff 35 t false;have Hwt:=Aa (fun W (h:G0 W b p t false)=>Dx b p t [35] false W h aI);obtain⟨t1,ht1⟩:∃t1,t1=(Bg [35] t false).getD t:=⟨_,rfl⟩
 obtain⟨b1,hb1⟩:∃b1,b1=(Bg [35] t false).isNone:=⟨_,rfl⟩
 have HQ2:=Aa (HQ.o.trans (Qn6 x.ty.fields t t1 (t1.dropWhile Bh) b1 (b1 || !H6 200 t1) ht1 hb1 rfl rfl));rw[<-ht1]at hm;rw[<-ht1,<-hb1]at Hwt;have Hn:=Aa (fun W (h:G0 W b p t1 b1)=>Qd b 200 p t1 b1 W h aI aL);have hnn:=Qb6 t1;have hdr:=Qci Bh t1;have Hf:=Aa (fun W (hW:Below w0 w0 W)=>Mj w0 x hx (Js t1) W hW aI);have hdl:=C9 5 (Js t1) dG;generalize (b1 || !H6 200 t1)=b2 at *;generalize t1.dropWhile Bh=t2 at *;generalize Js t1=n at *;clear ht1 hb1 h hw hq h9 HQ;go_enter func143,ntmps143;go_wp2_with fail;have F1:=Aa ((Qt.init HS.o (T:=68)).post ((Aq _ _).alloc (Al _) (.cells #[.int .u8 69,a6,.int .i64 0,.slice none 0 0] 68)));have V1:=@Aa (Vb (w.heap.size+1) _ _ _ _ _) (by have:=Vb.new (w:=w.alloc (.cells #[.int .u8 0,a6,.int .i64 0,.slice none 0 0] 68)) (h0:=.int .u8 69) (h1:=a6) (h2:=.int .i64 0) (h3:=.slice none 0 0) (T:=68);simpa using this);refine(Hwt.o _ F1.o.1.1).mono ?_;rintro e w2 ⟨rfl,hs2⟩;have F2:=Aa (F1.o.step hb0 hs2);have V2:=Aa (V1.o.grown hs2.2 aO);clear hs2 F1 V1;go_wp2_with fail;refine(Hn.o _ F2.o.1.1).mono ?_;rintro e w3 ⟨rfl,hs3⟩;have F3:=Aa (F2.o.step hb0 hs3);have V3:=Aa (V2.o.grown hs3.2 aO);clear hs3 F2 V2;have c2:=V3.o.c2;have f2:=V3.o.bk.live 2;have l2:=V3.o.lt;go_wp2_with fail;have F4:=Aa (F3.o.app hb0 (Ai w3 (w.heap.size+1) 2 (n:Int)) (fun k e=>by injection e with e;omega));have V4:=Aa (V3.o.set2 (n:Int));refine(Hf.o _ (F4.o.1.env HW.o hb)).mono ?_;rintro e w4 ⟨fp,rfl,hfp,rfl⟩;cases hfo:Ap x.ty.fields n with
 |some g=>
  rw[hfo]at hfp HQ2;obtain⟨fb,fo,rfl,_,_⟩:=hfp;have d0:=V4.o.c0;have d1:=V4.o.c1;have d2:=V4.o.c2;have d3:=V4.o.c3;clear hfo c2 f2 l2;generalize w3.setCell ⟨w.heap.size+1,2,none⟩ (n:Int)=w4 at *;go_wp2_with ((with_reducible refine Ac (op:=⟨none,.store 68 _ _,_,_,_,none⟩) rfl 68 _ _ rfl w 0 [.int .u8 69,a6,(n:Int),.slice none 0 0] ?_ ?_ ?_ ?_ ?_ ?_);rfl;rfl;(exact F4.o.2.1);kernel_rfl;(simp[Value.oneCell']);intro w9 HS9)
  have Z:=Qt.fin (v:=.mk 69 [] n []) (sl:=.slice none 0 0) F4.o hb0 HS9.o (Eb.nil _ _);refine aG (v:=.agg (Ew (.mk 69 [] n []) (.slice none 0 0)).toArray) (Ba results143 _ _ w.heap.size _ _ rfl Z.2.2 underlying68 rfl aN) rfl ⟨.mk 69 [] n [],_,t2,rfl,Z.1,?_,?_,Ft aI aL,by omega,by simp[Aw,Di,Gl];omega⟩
  ·rw[HQ2.o];cases b2<;>exact Z.2.1
  rw[HQ2.o];cases b2<;>simp
 |none=>
  rw[hfo]at hfp HQ2;have hfp':fp=.pointer none:=hfp;subst hfp';have s2:=F4.o.1.1.2.2.2.2;have sb:=F4.o.1.1.2.1.live 2;have s0:=F4.o.1.1.1;clear hfo c2 f2 l2;generalize w3.setCell ⟨w.heap.size+1,2,none⟩ (n:Int)=w4 at *;have F5:=Aa (F4.o.step hb0 ⟨F4.o.1.1.setBad true,Ai _ b 2 (.bool true)⟩);have V5:=Aa (V4.o.grown (Ai w4 b 2 (.bool true)) aO);have d0:=V5.o.c0;have d1:=V5.o.c1;have d2:=V5.o.c2;have d3:=V5.o.c3;go_wp2_with ((with_reducible refine Ac (op:=⟨none,.store 68 _ _,_,_,_,none⟩) rfl 68 _ _ rfl w 0 [.int .u8 69,a6,(n:Int),.slice none 0 0] ?_ ?_ ?_ ?_ ?_ ?_);rfl;rfl;(exact F5.o.2.1);kernel_rfl;(simp[Value.oneCell']);intro w9 HS9)
  have Z:=Qt.fin (v:=.mk 69 [] n []) (sl:=.slice none 0 0) F5.o hb0 HS9.o (Eb.nil _ _);refine aG (v:=.agg (Ew (.mk 69 [] n []) (.slice none 0 0)).toArray) (Ba results143 _ _ w.heap.size _ _ rfl Z.2.2 underlying68 rfl aN) rfl ⟨.mk 69 [] n [],_,t2,rfl,Z.1,?_,?_,Ft aI aL,by omega,by simp[Aw,Di,Gl];omega⟩
  ·rw[HQ2.o];simpa using Z.2.1
  rw[HQ2.o];simp
theorem Tryz.infoIntB:(prog.info? 3).map (fun i=>(i.zero,i.size,i.bytes))=some (some (.int .i64 0),1,8):=by kernel_rfl
theorem Kx{W:World}{base:Nat}{T:TypeId}{k n b:Nat}{v:Value}{xs:List Value}(h:W.ownsRow base T k v n xs)(hb:b<base):v.ownBlock≠some b:=fun e=>by have:=(h.lt b e).1;omega
structure Tp(w:World)(b:Nat)(p:Value)(tt:List UInt8)(bad:Bool)(sc:Value)(e:Nat)(kc kv sr:Value)(n:Nat)(ts:List Value)(xs:List (Vl × Value))(W:World):Prop where
 f:Q5 w b p tt bad sc (e+1) W
 r:W.there w.heap.size 0 4
 v:Vb (w.heap.size+1) W (.int .u8 82) (.string ⟨#[]⟩) (.int .i64 0) kc
 row:W.ownsRow (w.heap.size+1+1) 68 4 kv xs.length (xs.flatMap Ps)
 sn:W.ownsRow (w.heap.size+1+1) 3 1 sr n ts
 ap:∀c,kv.ownBlock=some c->sr.ownBlock≠some c
 kids:∀x∈xs,Eb (fun c=>w.heap.size+1+1<=c/\kv.ownBlock≠some c/\sr.ownBlock≠some c) W x.2 x.1.kids
section
variable {w W W':World} {b e n:Nat} {p sc sc' kc kv kv' sr sr':Value} {tt t':List UInt8} {bad bad':Bool} {ts:List Value} {xs:List (Vl × Value)}
theorem Tp.after(h:Tp w b p tt bad sc e kc kv sr n ts xs W)(hb:Below W.heap.size W W'):Tp w b p tt bad sc e kc kv sr n ts xs W':=
 ⟨h.f.post hb,An h.r (by have:=h.v.lt;omega) hb,h.v.after hb,Cr h.row hb,Cr h.sn hb,h.ap,fun x hx=>(h.kids x hx).after hb⟩
theorem Tp.step(h:Tp w b p tt bad sc e kc kv sr n ts xs W)(hb:b<w.heap.size)(hs:Q5 W b p t' bad' sc' (e+1) W'):Tp w b p t' bad' sc' e kc kv sr n ts xs W':=
 ⟨h.f.trans hs,Dn h.r hs.2 (by have:=h.v.lt;omega) (by simp;omega),h.v.grown hs.2 (by simp;omega),h.row.kept hs.2 (.inr (Kx h.row (by omega))),h.sn.kept hs.2 (.inr (Kx h.sn (by omega))),h.ap,fun x hx=>(h.kids x hx).grown hs.2 fun c hc e=>by injection e with e;omega⟩
theorem Tp.skip{u:Value}(h:Tp w b p tt bad sc e kc kv sr n ts xs W)(hb:b<w.heap.size)(hown:W'.ownsRow (w.heap.size+1+1) 3 1 sr' (n+1) (ts++[u]))(hg:W.grownBy W' sr.ownBlock)(hw:sr'.ownBlock=sr.ownBlock\/∃k,sr'.ownBlock=some k/\W.heap.size<=k):Tp w b p tt bad sc e kc kv sr' (n+1) (ts++[u]) xs W':=by
 have hlt:=h.v.lt
 have ha:∀c,c<w.heap.size+1+1->some c≠sr.ownBlock:=fun c hc e=>Kx h.sn hc e.symm
 refine⟨⟨h.f.1.block hg.size (hg.block b h.f.1.lt (ha b (by omega))),⟨hg.os.trans h.f.2.os,hg.tape.trans h.f.2.tape,hg.output.trans h.f.2.output,Nat.le_trans h.f.2.size hg.size,fun k hk hne=>(hg.block k (Nat.lt_of_lt_of_le hk h.f.2.size) (ha k (by omega))).trans (h.f.2.block k hk hne)⟩⟩,Dn h.r hg (by omega) (ha _ (by omega)),h.v.grown hg (ha _ (by omega)),h.row.kept hg ?_,hown,fun c hc e=>?_,fun x hx=>(h.kids x hx).kept (fun c o u hc hl hu=>hg.cell hu fun e=>hc.2.2 e.symm) hg.size fun c hc hl=>⟨hc.1,hc.2.1,fun e=>?_⟩⟩
 ·cases hk:kv.ownBlock with
  |none=>exact .inl rfl
  |some c=>exact .inr fun e=>h.ap c hk e.symm
 ·rcases hw with e2|⟨k,e2,hk⟩
  ·exact h.ap c hc (e2 ▸ e)
  have:=(h.row.lt c hc).2
  rw[e2]at e;injection e with e;omega
 rcases hw with e2|⟨k,e2,hk⟩
 ·exact hc.2.2 (e2 ▸ e)
 rw[e2]at e;injection e with e;omega
theorem Tp.kid{x:Vl × Value}(h:Tp w b p tt bad sc e kc kv sr n ts xs W)(hb:b<w.heap.size)(hx:Eb (fun c=>w.heap.size+1+1<=c/\kv.ownBlock≠some c/\sr.ownBlock≠some c) W x.2 x.1.kids)(hown:W'.ownsRow (w.heap.size+1+1) 68 4 kv' (xs.length+1) (xs.flatMap Ps++Ps x))(hg:W.grownBy W' kv.ownBlock)(hw:kv'.ownBlock=kv.ownBlock\/∃k,kv'.ownBlock=some k/\W.heap.size<=k):Tp w b p tt bad sc e kc kv' sr n ts (xs++[x]) W':=by
 have hlt:=h.v.lt
 have ha:∀c,c<w.heap.size+1+1->some c≠kv.ownBlock:=fun c hc e=>Kx h.row hc e.symm
 refine⟨⟨h.f.1.block hg.size (hg.block b h.f.1.lt (ha b (by omega))),⟨hg.os.trans h.f.2.os,hg.tape.trans h.f.2.tape,hg.output.trans h.f.2.output,Nat.le_trans h.f.2.size hg.size,fun k hk hne=>(hg.block k (Nat.lt_of_lt_of_le hk h.f.2.size) (ha k (by omega))).trans (h.f.2.block k hk hne)⟩⟩,Dn h.r hg (by omega) (ha _ (by omega)),h.v.grown hg (ha _ (by omega)),by simpa using hown,h.sn.kept hg ?_,fun c hc e=>?_,fun y hy=>?_⟩
 ·cases hk:sr.ownBlock with
  |none=>exact .inl rfl
  |some c=>exact .inr fun e=>h.ap c e.symm hk
 ·rcases hw with e2|⟨k,e2,hk⟩
  ·exact h.ap c (e2 ▸ hc) e
  have:=(h.sn.lt c e).2
  rw[e2]at hc;injection hc with hc;omega
 have hy':Eb (fun c=>w.heap.size+1+1<=c/\kv.ownBlock≠some c/\sr.ownBlock≠some c) W y.2 y.1.kids:=by
  rcases List.mem_append.1 hy with hy|hy
  ·exact h.kids y hy
  rw[List.mem_singleton]at hy;subst hy;exact hx
 refine hy'.kept (fun c o u hc hl hu=>hg.cell hu fun e=>hc.2.1 e.symm) hg.size fun c hc hl=>⟨hc.1,fun e=>?_,hc.2.2⟩
 rcases hw with e2|⟨k,e2,hk⟩
 ·exact hc.2.1 (e2 ▸ e)
 rw[e2]at e;injection e with e;omega
theorem Tp.put(h:Tp w b p tt bad sc e kc kv sr n ts xs W)(hb:b<w.heap.size):Tp w b p tt bad sc e kv kv sr n ts xs (W.setCell ⟨w.heap.size+1,3,none⟩ kv):=by
 have hg:=Ai W (w.heap.size+1) 3 kv
 have hf:=h.v.bk.live 3
 refine⟨h.f.new hb hg (by omega),Dn h.r hg (by have:=h.v.lt;omega) (by simp),⟨by simpa using h.v.lt,h.v.bk.set _,by simp[go_sem,h.v.c0],by simp[go_sem,h.v.c1],by simp[go_sem,h.v.c2],by simp[go_sem,h.v.c3,hf]⟩,h.row.kept hg (.inr (Kx h.row (by omega))),h.sn.kept hg (.inr (Kx h.sn (by omega))),h.ap,fun x hx=>(h.kids x hx).grown hg fun c hc e=>by injection e with e;omega⟩
theorem Tp.left(h:Tp w b p tt bad sc e kc kv sr n ts xs W)(hb:b<w.heap.size):Tp w b p tt bad sr e kc kv sr n ts xs (W.setCell ⟨b,3,none⟩ sr):=
 h.step hb ⟨h.f.1.setSk sr,Ai _ _ _ _⟩
theorem Tp.bd(h:Tp w b p tt bad sc e kc kv sr n ts xs W)(hb:b<w.heap.size):Tp w b p tt true sc e kc kv sr n ts xs (W.setCell ⟨b,2,none⟩ (.bool true)):=
 h.step hb ⟨h.f.1.setBad true,Ai _ _ _ _⟩
theorem Tp.done(h:Tp w b p tt bad sc e kc kv sr n ts xs W)(hl:xs.length<=1000):Eb (fun c=>w.heap.size+1+1<=c) W kv (Av xs):=by
 rcases h.row.2 with⟨rfl,h0⟩|⟨g,cap,cur,rfl,hbg,hh,hnc,hcm,hcs,htk⟩
 ·obtain rfl:xs=[]:=List.eq_nil_of_length_eq_zero h0
  exact Eb.nil _ _
 refine .mk (some ⟨g,0,none⟩) cap xs rfl rfl hl ⟨Mx Qdh xs,by unfold maxLen;omega,fun hn=>⟨g,0,rfl,(h.row.lt g rfl).2,fun j u hu=>?_⟩⟩ (fun g' o _ e=>by injection e with e;injection e with e;subst e;exact hbg) fun x hx=>(h.kids x hx).mono fun c hc _=>hc.1
 have:=h.row.cells (g:=g) rfl j u hu
 have e1:(⟨g,0,none⟩:Addr).add j=⟨g,0+j,none⟩:=by unfold Addr.add;split<;>simp_all
 rwa [e1]at this
end
def RQ(S:List Ty)(K:Kd->List UInt8->Option (Vl × List UInt8))(fs:List Fd)(q:Option (Vl × List UInt8))(N:Nat)(bad:Bool)(tt:List UInt8)(last:Nat)(vs:List Vl)(n:Nat):Prop:=
 (bad=true->q=none)/\(bad=false->∃F,tt.length<=F/\q=(Dc S K fs (F+1) last tt).map (fun y=>(.mk 82 [] 0 (vs++y.1.map Ea),y.2))/\N=n+Qaj fs (F+1) last tt)
section
variable {S:List Ty} {K:Kd->List UInt8->Option (Vl × List UInt8)} {fs:List Fd} {q:Option (Vl × List UInt8)} {N last n:Nat} {tt:List UInt8} {vs:List Vl}
theorem RQ.bad{tt':List UInt8}{l' n':Nat}{vs':List Vl}(h:q=none):RQ S K fs q N true tt' l' vs' n':=⟨fun _=>h,fun h=>absurd h (by decide)⟩
theorem RQ.stop(h:RQ S K fs q N false tt last vs n)(h0:Gn tt=0):(Ag tt).isNone=q.isNone/\(∀x,q=some x->Vl.mk 82 [] 0 vs=x.1/\Ds tt=x.2)/\(∀x,q=some x->N=n):=by
 obtain⟨F,h1,h2,h3⟩:=h.2 rfl
 unfold Dc at h2
 unfold Qaj at h3
 unfold Gn at h0
 unfold Ds
 cases hn:Ag tt with
 |none=>rw[hn]at h2;rw[h2];simp
 |some y=>
  obtain⟨g,r⟩:=y
  rw[hn]at h0 h2 h3
  simp only at h0 h2 h3
  subst h0
  rw[if_pos rfl]at h2 h3
  rw[h2]
  refine⟨rfl,fun x hx=>?_,fun _ _=>by omega⟩
  injection hx with hx
  subst hx
  exact⟨by simp,rfl⟩
theorem RQ.step(h:RQ S K fs q N false tt last vs n)(h0:Gn tt≠0):(Ag tt).isNone=false /\
  (Y8 (Ds (Ds tt)) (Gn (Ds tt)) (Ag (Ds tt)).isNone=true->q=none)/\(Gn tt<=last->q=none) /\
  (Y8 (Ds (Ds tt)) (Gn (Ds tt)) (Ag (Ds tt)).isNone=false->¬Gn tt<=last ->
   (Ap fs (Gn tt)=none->RQ S K fs q N false (tkR (Ds (Ds tt)) (Gn (Ds tt)) (Ag (Ds tt)).isNone) (Gn tt) vs (n+1)) /\
   ∀f,Ap fs (Gn tt)=some f->(Cg (K f.kind) (tkS (Ds (Ds tt)) (Gn (Ds tt)) (Ag (Ds tt)).isNone)=none->q=none) /\
    ∀v,Cg (K f.kind) (tkS (Ds (Ds tt)) (Gn (Ds tt)) (Ag (Ds tt)).isNone)=some v->RQ S K fs q N false (tkR (Ds (Ds tt)) (Gn (Ds tt)) (Ag (Ds tt)).isNone) (Gn tt) (if Aw v=Kr S f then vs else vs++[Ea (f,v)]) n):=by
 obtain⟨F,h1,h2,h3⟩:=h.2 rfl
 have hr:=Vn (Ds tt) 0 false
 unfold Dc at h2
 unfold Qaj at h3
 cases hn:Ag tt with
 |none=>unfold Gn at h0;rw[hn]at h0;exact absurd rfl h0
 |some y=>
  obtain⟨g,r⟩:=y
  have e1:Gn tt=g:=by unfold Gn;rw[hn]
  have e2:Ds tt=r:=by unfold Ds;rw[hn]
  have hlt:=(Cq hn).2
  rw[hn]at h2 h3
  simp only at h2 h3
  rw[e1]at h0
  rw[e1,e2]
  rw[if_neg h0,Vy r]at h2 h3
  have hlr:=Vn r (Gn r) (Ag r).isNone
  have hl3:(tkR (Ds r) (Gn r) (Ag r).isNone).length<=r.length:=Nat.le_trans (Vn _ _ _) (Nz r)
  generalize Y8 (Ds r) (Gn r) (Ag r).isNone=bo at *
  generalize tkR (Ds r) (Gn r) (Ag r).isNone=r2 at *
  generalize tkS (Ds r) (Gn r) (Ag r).isNone=s at *
  refine⟨rfl,?_,?_,?_⟩
  ·rintro rfl;rw[h2];rfl
  ·intro hl;rw[h2];cases bo<;>simp[hl]
  rintro rfl hl
  rw[if_neg (by decide)]at h2 h3
  simp only[if_neg hl]at h2 h3
  obtain⟨F',rfl⟩:∃F',F=F'+1:=⟨F - 1,by omega⟩
  refine⟨fun hf=>⟨fun h=>absurd h (by decide),fun _=>⟨F',by omega,?_,?_⟩⟩,fun f hf=>⟨fun hw=>?_,fun v hw=>⟨fun h=>absurd h (by decide),fun _=>⟨F',by omega,?_,?_⟩⟩⟩⟩
  ·rw[h2,hf]
  ·rw[h3,hf];simp;omega
  ·rw[h2,hf];simp only;rw[hw];rfl
  ·rw[h2,hf]
   simp only
   rw[hw]
   simp only
   cases Dc S K fs (F'+1) g r2 with
   |none=>rfl
   |some z=>by_cases hp:Aw v=Kr S f<;>simp[hp]
  rw[h3,hf];simp
end
theorem Tp.init{w:World}{b e:Nat}{p sk:Value}{t:List UInt8}(h:Md w b p t false sk (e+1)){T U:TypeId}:
  Tp w b p t false sk e (.slice none 0 0) (.slice none 0 0) (.slice none 0 0) 0 [] [] ((w.alloc (.cells #[.int .u8 0,.string ⟨#[]⟩,.int .i64 0,.slice none 0 0] T)).alloc (.cells #[.int .u8 82,.string ⟨#[]⟩,.int .i64 0,.slice none 0 0] U)):=by
 have b1:Below w.heap.size w (w.alloc (.cells #[.int .u8 0,.string ⟨#[]⟩,.int .i64 0,.slice none 0 0] T)):=(Aq _ _).alloc (Al _) _
 have q1:=Cu w [.int .u8 0,.string ⟨#[]⟩,.int .i64 0,.slice none 0 0] T
 have hz1:(w.alloc (.cells #[.int .u8 0,.string ⟨#[]⟩,.int .i64 0,.slice none 0 0] T)).heap.size=w.heap.size+1:=by simp
 have q1:(w.alloc (.cells #[.int .u8 0,.string ⟨#[]⟩,.int .i64 0,.slice none 0 0] T)).there w.heap.size 0 4:=q1
 generalize w.alloc (.cells #[.int .u8 0,.string ⟨#[]⟩,.int .i64 0,.slice none 0 0] T)=W1 at *
 have b2:Below W1.heap.size W1 (W1.alloc (.cells #[.int .u8 82,.string ⟨#[]⟩,.int .i64 0,.slice none 0 0] U)):=(Aq _ _).alloc (Al _) _
 have hv:Vb W1.heap.size (W1.alloc (.cells #[.int .u8 82,.string ⟨#[]⟩,.int .i64 0,.slice none 0 0] U)) (.int .u8 82) (.string ⟨#[]⟩) (.int .i64 0) (.slice none 0 0):=Vb.new
 rw[hz1]at hv
 have bb:=b1.trans (b2.mono (by omega))
 exact⟨⟨h.grow bb,Cd bb _⟩,An q1 (by omega) b2,hv,⟨by simp[Value.ownBlock],.inl ⟨rfl,rfl⟩⟩,⟨by simp[Value.ownBlock],.inl ⟨rfl,rfl⟩⟩,by simp[Value.ownBlock],by simp⟩
def Qqb(w:World)(b:Nat)(p:Value)(t:List UInt8)(sk:Value)(e N:Nat)(r:Option (Vl × List UInt8))(en:Ending)(w':World):Prop:=
 ∃(v:Vl) (sl:Value) (t':List UInt8) (sk':Value),en=.returned (Gf v sl)/\Eb (fun c=>w.heap.size<=c) w' sl v.kids/\Q5 w b p t' r.isNone sk' (e+1) w'/\(∀x,r=some x->v=x.1/\t'=x.2)/\t'.length<=t.length /\
  (e≠0->sk'=sk)/\(e=0->∀x,r=some x->∃A c,sk'=.slice A N c)
def Qdp:Option Value->Nat->Nat
 |some (.bool true),_=>0
 |_,n=>n
theorem Qok{pp:Prop}(h:pp:=by
  have d0:=F.o.v.c0
  have d1:=F.o.v.c1
  have d2:=F.o.v.c2
  have d3:=F.o.v.c3
  go_wp2_with ((with_reducible refine Ac (op:=⟨none,.store 68 _ _,_,_,_,none⟩) rfl 68 _ _ rfl w.heap.size 0 [.int .u8 82,.string ⟨#[]⟩,.int .i64 0,.slice A xs.length c] ?_ ?_ ?_ ?_ ?_ ?_);rfl;rfl;(exact F.o.r);kernel_rfl;(simp[Value.oneCell']);intro w9 HS9)
  have FB:=Aa (F.o.f)
  rw[E.o.1]at FB
  have h9:=HS9.o
  subst h9
  exact bodyPost_ret (v:=.agg (Ew (.mk 82 [] 0 (Av xs)) (.slice A xs.length c)).toArray) (Ba results185 _ _ w.heap.size _ _ rfl (World.rangeAt_setCells_same _ _ _ (Ew (.mk 82 [] 0 (Av xs)) (.slice A xs.length c)) F.o.r) underlying68 rfl (by kernel_rfl)) rfl
   ⟨.mk 82 [] 0 (Av xs),.slice A xs.length c,_,_,rfl,((F.o.done (by omega)).set (B:=w.heap.size) (by omega) _).mono fun c hc _=>by omega,FB.o.set (B:=w.heap.size) (by omega) (by omega) _,E.o.2,by omega,fun h=>E1.o h,fun h x hx=>⟨A2,c2,by rw[E0.o h,EN.o h x hx]⟩⟩):pp:=h
theorem Qiv(w0:World)(b:Nat)(p:Value)(XS:List PT)(hsc:To w0 p XS)(hok:Kt (Ah XS))(d:Nat)(t:List UInt8)(sk:Value)(e:Nat)(w:World)(hw:Below w0.heap.size w0 w)(hbw:w0.heap.size<=b)(h:Md w b p t false sk (e+1))(he:e+(d+1)=13)(hl:t.length<=600)(h0:e=0->sk=.slice none 0 0)
  (x:PT) (hx:Tc w0 x) (H:∀n f,Ap x.ty.fields n=some f->IbV w0 p (Ah XS) d f.kind/\Cw f.kind/\Bu (Ah XS) f.kind/\f.given.length<=1000) (HB:∀n f s v,Ap x.ty.fields n=some f->s.length<=600->Cg (E9 (Ah XS) d f.kind) s=some v->Bd v)
  (q:Option (Vl × List UInt8)) (N:Nat) (hq:q=(Dc (Ah XS) (E9 (Ah XS) d) x.ty.fields 1000 0 t).map fun y=>(.mk 82 [] 0 (y.1.map Ea),y.2)) (hN:N=Qaj x.ty.fields 1000 0 t):
  Calls prog 185 #[.pointer (some ⟨b,0,none⟩),.pointer (some ⟨x.blk,0,none⟩)] w (Qqb w b p t sk e N q):=by
 have HI:=Aa (show RQ (Ah XS) (E9 (Ah XS) d) x.ty.fields q N false t 0 [] 0 from⟨fun h=>absurd h (by decide),fun _=>⟨999,by omega,by rw[hq];rfl,by rw[hN,Nat.zero_add]⟩⟩)
 have Hf:=Aa (fun n (hn:n<=999999) W (hW:Below w0.heap.size w0 W)=>Mj w0 x hx n W hW (by omega))
 have HH:=Aa H
 have HBd:=Aa HB
 have HSc:=Aa hsc
 have HS:=Aa h
 have HW:=Aa hw
 have H0:=Aa h0
 have hb0:=h.lt
 obtain⟨pb,hp⟩:∃pb,p=.pointer (some ⟨pb,0,none⟩):=by obtain⟨pb,A,c,mb,rfl,_⟩:=hsc;exact⟨pb,rfl⟩
 subst hp
 have n1:¬(b=w.heap.size):=by omega
 have n2:¬(b=w.heap.size+1):=by omega
 have l1:b<w.heap.size+1:=by omega
 generalize hfs:x.ty.fields=fs at *
 generalize hxb:x.blk=xb at *
 clear hsc h hw h0 H HB hq hN hx
 go_enter func185,ntmps185
 go_wp2_with fail
 generalize hwg:World.alloc (World.alloc _ _) _=W0
 have F0:=Aa (show Tp w b (.pointer (some ⟨pb,0,none⟩)) t false sk e (.slice none 0 0) (.slice none 0 0) (.slice none 0 0) 0 [] [] W0 from by rw[<-hwg];exact Tp.init HS.o)
 clear hwg
 go_loopw [6] (fun i wr=>∃(last:Nat) (tt:List UInt8) (bad:Bool) (sc:Value) (A:Option Addr) (c:Nat) (A2:Option Addr) (n c2:Nat) (ts:List Value) (xs:List (Vl × Value)),i=.int .i64 (last:Int)/\last<=999999/\tt.length<=t.length/\Hid (Tp w b (.pointer (some ⟨pb,0,none⟩)) tt bad sc e (.slice A xs.length c) (.slice A xs.length c) (.slice A2 n c2) n ts xs wr)/\Hid (e=0->sc=.slice A2 n c2)/\Hid (e≠0->sc=sk)/\Hid (xs.length+n+tt.length<=t.length) /\
  Hid (∃m,(e=0->m=n)/\RQ (Ah XS) (E9 (Ah XS) d) fs q N bad tt last (Av xs) m)) (fun i wr=>Qdp (wr.cell? ⟨b,2,none⟩) (1000001 - (intOf i).toNat))
 case atStart=>exact⟨0,t,false,sk,none,0,none,0,0,[],[],rfl,by omega,Al _,F0.o,H0.o,fun _=>rfl,(show 0+0+t.length<=t.length by omega),⟨0,fun _=>rfl,HI.o⟩⟩
 case round=>
  obtain⟨last,tt,bad,sc,A,c,A2,n,c2,ts,xs,rfl,hla,htl,F,E0,E1,EL,I⟩:=hrel
  obtain⟨m,hm,hI⟩:=I.o
  have HI:=Aa hI
  have Hm:=Aa hm
  have s2:=F.o.f.1.c2
  have hlen:=EL.o
  clear I hI hm
  cases bad with
  |true=>
   have E:=Aa (show true=q.isNone/\∀x,q=some x->Vl.mk 82 [] 0 (Av xs)=x.1/\tt=x.2 from by rw[HI.o.1 rfl];simp)
   have EN:=Aa (show e=0->∀x,q=some x->N=n from by rw[HI.o.1 rfl];simp)
   exact Qok
  |false=>
   have M0:=Aa s2
   go_wp2_with fail
   refine(Jf b _ tt false sc (e+1) _ F.o.f.1 (by omega)).mono ?_
   rintro en w2 ⟨rfl,hs2⟩
   rw[Bool.false_or]at hs2
   have F2:=Aa (F.o.step hb0 hs2)
   have hn1:=Qf tt
   have hr1:=Nz tt
   clear hs2 s2
   by_cases hz:Gn tt=0
   ·have E:=Aa (show (Ag tt).isNone=q.isNone/\∀x,q=some x->Vl.mk 82 [] 0 (Av xs)=x.1/\Ds tt=x.2 from⟨(HI.o.stop hz).1,(HI.o.stop hz).2.1⟩)
    have EN:=Aa (show e=0->∀x,q=some x->N=n from fun h x hx=>((HI.o.stop hz).2.2 x hx).trans (Hm.o h))
    have F:=Aa F2.o
    have hz':(Gn tt:Int)=0:=by omega
    exact Qok
   have Z:=Aa (HI.o.step hz)
   have hr2:=Nz (Ds tt)
   have hn2:=Qf (Ds tt)
   have hr3:=Vn (Ds (Ds tt)) (Gn (Ds tt)) (Ag (Ds tt)).isNone
   have hs3:=Qg3 (Ds (Ds tt)) (Gn (Ds tt)) (Ag (Ds tt)).isNone
   have hb0n:=Z.o.1
   rw[hb0n]at F2
   clear HI
   have hz':¬((Gn tt:Int)=0):=by omega
   go_wp2_with fail
   refine(Jf b _ (Ds tt) false sc (e+1) _ F2.o.f.1 (by omega)).mono ?_
   rintro en w3 ⟨rfl,hs3'⟩
   rw[Bool.false_or]at hs3'
   have F3:=Aa (F2.o.step hb0 hs3')
   clear F2 hs3' F
   go_wp2_with fail
   refine(Pe b _ (Ds (Ds tt)) _ sc (e+1) (Gn (Ds tt)) _ F3.o.f.1 (by omega) hn2).mono ?_
   rintro en w4 ⟨rfl,hs4⟩
   have F4:=Aa (F3.o.step hb0 hs4)
   have hlt:(Ds tt).length<tt.length:=by
    unfold Ds
    cases hh:Ag tt with
    |none=>rw[hh]at hb0n;cases hb0n
    |some y=>obtain⟨g,r⟩:=y;exact(Cq hh).2
   clear F3 hs4 hb0n
   generalize Y8 (Ds (Ds tt)) (Gn (Ds tt)) (Ag (Ds tt)).isNone=bd at *
   generalize tkR (Ds (Ds tt)) (Gn (Ds tt)) (Ag (Ds tt)).isNone=r2 at *
   generalize tkS (Ds (Ds tt)) (Gn (Ds tt)) (Ag (Ds tt)).isNone=s at *
   generalize Ds (Ds tt)=r1 at *
   generalize Ds tt=r0 at *
   generalize Gn tt=g at *
   by_cases hgl:g<=last
   ·have hgl':((g:Int)<=(last:Int)):=by omega
    have s2:=F4.o.f.1.c2
    have sf:=F4.o.f.1.bk.live 2
    have hqn:=Z.o.2.2.1 hgl
    have F5:=Aa (F4.o.bd hb0)
    have HfW:=Hf.o g hn1 (w4.setCell ⟨b,2,none⟩ (.bool true)) (F5.o.f.env HW.o hbw)
    clear Z F4
    go_wp2_with fail
    refine HfW.mono ?_
    rintro en w5 ⟨fp,rfl,hfp,rfl⟩
    have t2:=F5.o.f.1.c2
    clear hfp HfW s2 sf
    go_wp2_with fail
    go_roundw
    case rel=>exact⟨g,r2,true,sc,A,c,A2,n,c2,ts,xs,rfl,hn1,by omega,F5.o,E0.o,E1.o,(show xs.length+n+r2.length<=t.length by omega),⟨n,fun _=>rfl,RQ.bad hqn⟩⟩
    case measure=>simp[M0.o,intOf,t2,Qdp]<;>omega
   have hgl':¬((g:Int)<=(last:Int)):=by omega
   have HfW:=Hf.o g hn1 w4 (F4.o.f.env HW.o hbw)
   go_wp2_with fail
   refine HfW.mono ?_
   rintro en w5 ⟨fp,rfl,hfp,rfl⟩
   have s2:=F4.o.f.1.c2
   have s4:=F4.o.f.1.c4
   cases bd with
   |true=>
    have hqn:=Z.o.2.1 rfl
    clear hfp HfW Z
    go_wp2_with fail
    go_roundw
    case rel=>exact⟨g,r2,true,sc,A,c,A2,n,c2,ts,xs,rfl,hn1,by omega,F4.o,E0.o,E1.o,(show xs.length+n+r2.length<=t.length by omega),⟨n,fun _=>rfl,RQ.bad hqn⟩⟩
    case measure=>simp[M0.o,intOf,s2,Qdp]<;>omega
   |false=>
    obtain⟨Z1,Z2⟩:=Z.o.2.2.2 rfl hgl
    cases hfg:Ap fs g with
    |none=>
     rw[hfg]at hfp
     obtain rfl:fp=.pointer none:=hfp
     have Z3:=Aa (Z1 hfg)
     clear Z Z1 Z2 HfW
     have hm2:=Hm.o
     by_cases he0:e=0
     ·have q1:=E0.o he0
      have q2:=hm2 he0
      subst he0 q1 q2
      have s3:=F4.o.f.1.c3
      have hV7:w.heap.size+1+1<=w4.heap.size:=F4.o.v.lt
      go_wp2_with (at_builtin;refine Fg _ rfl _ _ 32 rfl (w.heap.size+1+1) 3 (.int .i64 0) 8 underlying32 Tryz.infoIntB rfl w4 (.int .i64 (g:Int)) rfl rfl (.slice A2 m c2) m ts rfl rfl F4.o.sn (by unfold maxLen;omega) (by omega) hV7 ?_;intro v' w8 hown8 hg8 hw8;obtain⟨A5,n5,c5,rfl⟩:=Jy hown8;have F8:=Aa (F4.o.skip hb0 hown8 hg8 hw8);have g3:=F8.o.f.1.c3;have gf:=F8.o.f.1.bk.live 3;clear hown8 hg8 hw8)
      have F9:=Aa (F8.o.left hb0)
      have hln:=Jl F8.o.sn
      subst hln
      have t2:=F9.o.f.1.c2
      go_roundw
      case rel=>exact⟨g,r2,false,_,A,c,A5,m+1,c5,_,xs,rfl,hn1,by omega,F9.o,fun _=>rfl,fun h=>absurd rfl h,(show xs.length+(m+1)+r2.length<=t.length by omega),⟨m+1,fun _=>rfl,Z3.o⟩⟩
      case measure=>simp[M0.o,intOf,t2,Qdp]<;>omega
     have e2:¬(((e+1:Nat):Int)=1):=by omega
     go_wp2_with fail
     go_roundw
     case rel=>exact⟨g,r2,false,sc,A,c,A2,n,c2,ts,xs,rfl,hn1,by omega,F4.o,E0.o,E1.o,(show xs.length+n+r2.length<=t.length by omega),⟨m+1,fun h=>absurd h he0,Z3.o⟩⟩
     case measure=>simp[M0.o,intOf,s2,Qdp]<;>omega
    |some f=>
     rw[hfg]at hfp
     obtain⟨fb,fo,rfl,hfb,hfr⟩:=hfp
     have Z3:=Aa (Z2 f hfg)
     have g2:=Ab hfr 2 rfl
     have g3:=Ab hfr 3 rfl
     have g4:=Ab hfr 4 rfl
     have hfb4:fb<w4.heap.size:=Nat.lt_of_lt_of_le hfb (F4.o.f.env HW.o hbw).size
     obtain⟨hIv,hk1,hk2,hk3⟩:=HH.o g f hfg
     have HP:=Aa (Zx w0 _ (Ah XS) d f.kind hIv ⟨pb,rfl⟩ b r2 s sc (e+1) w4 (F4.o.f.env HW.o hbw) hbw F4.o.f.1 (by omega) (by omega) (by omega))
     have hrc:=HBd.o g f s
     have HBf:=Aa (fun v (h:Cg (E9 (Ah XS) d f.kind) s=some v)=>hrc v hfg (by omega) h)
     have HF0:=Aa hfr
     have HK:=Aa (And.intro hk1 (And.intro hk2 hk3))
     generalize Cg (E9 (Ah XS) d f.kind) s=ow at *
     unfold Fi at HP
     clear Z Z1 Z2 HfW hIv hk1 hk2 hk3 hrc hfr
     go_wp2_with fail
     refine HP.o.mono ?_
     rintro en w5 ⟨v,sl,rfl,hv,hB,hxv⟩
     have hz4:=F4.o.v.lt
     have F5:=Aa (F4.o.step hb0 hB)
     have hv5:=hv.mono (Q:=fun k=>w.heap.size+1+1<=k/\(Value.slice A xs.length c).ownBlock≠some k/\(Value.slice A2 n c2).ownBlock≠some k) fun k hk _=>⟨by omega,fun e=>by have:=(F4.o.row.lt k e).2;omega,fun e=>by have:=(F4.o.sn.lt k e).2;omega⟩
     have hE4:=F4.o.f.env HW.o hbw
     have hfb5:fb<w5.heap.size:=Nat.lt_of_lt_of_le hfb4 hB.2.size
     have hb5:=F5.o.f.1.lt
     obtain⟨A7,c7,rfl⟩:=hv5.form
     clear hv F4 HP hB s2 s4
     unfold Gf
     go_wp2_with fail
     generalize hwg:World.alloc w5 _=w6
     have hb6:Below w5.heap.size w5 w6:=by rw[<-hwg];exact(Aq _ _).alloc (Al _) _
     have hz6:w6.heap.size=w5.heap.size+1:=by rw[<-hwg];simp
     have x0:w6.cell? ⟨w5.heap.size,0,none⟩=some (.int .u8 (v.what.toNat:Int)):=by rw[<-hwg];simp
     have x1:w6.cell? ⟨w5.heap.size,1,none⟩=some (.string ⟨v.text.toArray⟩):=by rw[<-hwg];simp
     have x2:w6.cell? ⟨w5.heap.size,2,none⟩=some (.int .i64 (v.tag:Int)):=by rw[<-hwg];simp
     have x3:w6.cell? ⟨w5.heap.size,3,none⟩=some (.slice A7 v.kids.length c7):=by rw[<-hwg];simp
     have F6:=Aa (F5.o.after hb6)
     have V6:=Aa (hv5.after hb6)
     have hE6:=F6.o.f.env HW.o hbw
     have nb5:¬(b=w5.heap.size):=by omega
     clear hwg hb6 hv5 F5
     have s2:=F6.o.f.1.c2
     have s0:=F6.o.f.1.c0
     cases ow with
     |none=>
      have hqn:=Z3.o.1 rfl
      clear hxv
      go_quiet (fail)
      have F7:=Aa (F6.o.after (below_drewN (Aq _ _) nq))
      have t2:=F7.o.f.1.c2
      go_wp2_with fail
      go_roundw
      case rel=>exact⟨g,r2,true,sc,A,c,A2,n,c2,ts,xs,rfl,hn1,by omega,F7.o,E0.o,E1.o,(show xs.length+n+r2.length<=t.length by omega),⟨n,fun _=>rfl,RQ.bad hqn⟩⟩
      case measure=>simp[M0.o,intOf,t2,Qdp]<;>omega
     |some v'=>
      obtain rfl:=hxv v' rfl
      have HBd:=Aa (HBf.o v rfl)
      have hfb6:fb<w6.heap.size:=by omega
      have HF6:=Aa (show ∀W,Below w0.heap.size w0 W->W.rangeAt fb fo (Tq f)from fun W hW j y hj=>((hW.cell (p:=⟨fb,fo+j,none⟩) hfb).trans ((F6.o.f.env HW.o hbw).cell (p:=⟨fb,fo+j,none⟩) hfb).symm).trans (((hE6.cell (p:=⟨fb,fo+j,none⟩) hfb).trans (hE4.cell (p:=⟨fb,fo+j,none⟩) hfb).symm).trans (HF0.o j y hj)))
      have HPr:=Aa (fun W (hW:Below w6.heap.size w6 W)=>Pd _ HBd.o (.slice A7 v.kids.length c7) W (V6.o.after hW))
      have HOf:=Aa (fun W (hW:Below w6.heap.size w6 W)=>Qh1 (.pointer (some ⟨pb,0,none⟩)) XS hok f fb fo W (HSc.o.below (hE6.trans (hW.mono hE6.size))) (HF6.o W (hE6.trans (hW.mono hE6.size))) HK.o.1 HK.o.2.1 HK.o.2.2)
      have hb6:b<w6.heap.size:=by omega
      have hx6:w5.heap.size<w6.heap.size:=by omega
      unfold Gf at HPr
      refine rgB ?_
      iterate 7 refine sq ?_
      refine sqC HPr.o ?_
      iterate 5 refine sq ?_
      refine sqC HOf.o ?_
      iterate 2 refine sq ?_
      refine dnB fun W7 hR=>?_
      have F7:=Aa (F6.o.after hR.o)
      have V7:=Aa (V6.o.after hR.o)
      have y0:=(hR.o.cell (p:=⟨w5.heap.size,0,none⟩) hx6).trans x0
      have y1:=(hR.o.cell (p:=⟨w5.heap.size,1,none⟩) hx6).trans x1
      have y2:=(hR.o.cell (p:=⟨w5.heap.size,2,none⟩) hx6).trans x2
      have y3:=(hR.o.cell (p:=⟨w5.heap.size,3,none⟩) hx6).trans x3
      have hx7:w5.heap.size<W7.heap.size:=Nat.lt_of_lt_of_le hx6 hR.o.size
      have t2:=F7.o.f.1.c2
      have Z4:=Z3.o.2 v rfl
      clear x0 x1 x2 x3 F6 V6 hR HPr HOf HF6 hE6 hE4 hxv s2 s0 hb6 hx6
      by_cases hp:Aw v=Kr (Ah XS) f
      ·rw[if_pos hp]at Z4
       have Z5:=Aa Z4
       have hp2:(!Aw v == Kr (Ah XS) f)=false:=by rw[hp];simp
       rw[hp2]
       clear Z4 hp Z3 hp2
       go_wp2_with fail
       go_roundw
       case rel=>exact⟨g,r2,false,sc,A,c,A2,n,c2,ts,xs,rfl,hn1,by omega,F7.o,E0.o,E1.o,(show xs.length+n+r2.length<=t.length by omega),⟨m,Hm.o,Z5.o⟩⟩
       case measure=>simp[M0.o,intOf,t2,Qdp]<;>omega
      rw[if_neg hp]at Z4
      have Z5:=Aa Z4
      have hp2:(!Aw v == Kr (Ah XS) f)=true:=by simpa using hp
      rw[hp2]
      have k3:=F7.o.v.c3
      have hz7:=F7.o.v.lt
      have hgt:=Aa ((Ay hfg).1)
      have F8:=Aa (F7.o.after (W':=W7.alloc (.cells (Ps (v,.slice A7 v.kids.length c7)).toArray 68)) ((Aq _ _).alloc (Al _) _))
      have V8:=Aa (V7.o.one (T:=68) (fun b hb _=>hb) (show w.heap.size+1+1<=W7.heap.size/\(Value.slice A xs.length c).ownBlock≠some W7.heap.size/\(Value.slice A2 n c2).ownBlock≠some W7.heap.size from⟨by omega,fun e=>by have:=(F7.o.row.lt _ e).2;omega,fun e=>by have:=(F7.o.sn.lt _ e).2;omega⟩))
      clear Z4 hp Z3 hp2 V7
      go_wp2_with (at_builtin;go_loud (refine Sn (W7.alloc (.cells (Ps (v,.slice A7 v.kids.length c7)).toArray 68)) rfl (.tmp 59) (.tmp 64) 66 rfl (w.heap.size+1+1) 68 (.agg #[.int .u8 0,.string ⟨#[]⟩,.int .i64 0,.slice none 0 0]) 4 56 underlying66 Yn rfl (by decide) (Ps (.mk 61 [] g [v],.slice (some ⟨W7.heap.size,0,none⟩) 1 1)) rfl (Yl _ rfl) (.slice A xs.length c) xs.length (xs.flatMap Ps) rfl (by simp;rfl) F8.o.row (by unfold maxLen;omega) (by omega) (by simp;omega) ?_);intro v' w8 hown hg hwh;obtain⟨A5,n5,c5,rfl⟩:=Jy hown;have F9:=Aa (F8.o.kid hb0 (x:=(.mk 61 [] g [v],.slice (some ⟨W7.heap.size,0,none⟩) 1 1)) V8.o hown hg hwh);have g3:=F9.o.v.c3;have gf:=F9.o.v.bk.live 3;clear hown hg hwh)
      have F10:=Aa (F9.o.put hb0)
      have hln:=Jl F9.o.row
      have hl1:(xs++[((.mk 61 [] g [v]:Vl),(Value.slice (some ⟨W7.heap.size,0,none⟩) 1 1))]).length=xs.length+1:=by simp
      subst hln
      have u2:=F10.o.f.1.c2
      go_roundw
      case rel=>exact⟨g,r2,false,sc,A5,c5,A2,n,c2,ts,_,rfl,hn1,by omega,F10.o,E0.o,E1.o,(show (xs++[((.mk 61 [] g [v]:Vl),(Value.slice (some ⟨W7.heap.size,0,none⟩) 1 1))]).length+n+r2.length<=t.length by omega),⟨m,Hm.o,by rw[<-hgt.o];simpa [Av,Ea,hgt.o]using Z5.o⟩⟩
      case measure=>rw[u2,M0.o];simp[intOf,Qdp]<;>omega
theorem Qmk(w0:World)(b:Nat)(p:Value)(XS:List PT)(hsc:To w0 p XS)(hok:Kt (Ah XS))(d:Nat)(t:List UInt8)(sk:Value)(e:Nat)(k:Kd)(w:World)(hw:Below w0.heap.size w0 w)(hbw:w0.heap.size<=b)(h:Md w b p t false sk e)(he:e+(d+1)=13)(hl:t.length<=600)(h0:e=0->sk=.slice none 0 0)
  (hs:k.signs=[]) (hbs:k.base=[64]) (hnm:k.name.length<=100) (x:PT) (hxf:Fh XS k.name=some x) (hx:Tc w0 x) (h9:x.ty.sort=82) (H:∀n f,Ap x.ty.fields n=some f->IbV w0 p (Ah XS) d f.kind/\Cw f.kind/\Bu (Ah XS) f.kind/\f.given.length<=1000) (HB:∀n f s v,Ap x.ty.fields n=some f->s.length<=600->Cg (E9 (Ah XS) d f.kind) s=some v->Bd v)
  (q:Option (Vl × List UInt8)) (N:Nat) (hq:q=(Dc (Ah XS) (E9 (Ah XS) d) x.ty.fields 1000 0 t).map fun y=>(.mk 82 [] 0 (y.1.map Ea),y.2)) (hN:N=Qaj x.ty.fields 1000 0 t):
  Calls prog 129 #[.pointer (some ⟨b,0,none⟩),Fi k] w (Pp w b p t sk e N q):=by
 have he13:e<13:=by omega
 have HR:=Aa (fun W (hW:Below w0.heap.size w0 W) (h:Md W b p t false sk (e+1))=>Qiv w0 b p XS hsc hok d t sk e W hW hbw h he hl h0 x hx H HB q N hq hN)
 obtain⟨pb,A,c,mb,rfl,hpb,hc0,hc1,_,hnd,_,_⟩:=hsc
 have HN:=Aa (fun W (h:Below w0.heap.size w0 W)=>show (Instr.lookup 133 (.map (some mb)) (.string ⟨k.name.toArray⟩) false).run prog W=.ok (.pointer (some ⟨x.blk,0,none⟩)) W from by
  have:=Fw (D5.below hnd h) k.name (by omega);rw[hxf]at this;exact this)
 have HM:=Aa (fun W (h:Below w0.heap.size w0 W)=>(h.cell (p:=⟨pb,1,none⟩) hpb).trans hc1)
 have HX0:=Aa (fun W (h:Below w0.heap.size w0 W)=>(show W.cell? ⟨x.blk,0,none⟩=some (.int .u8 82)from by
  have:=(h.cell (p:=⟨x.blk,0,none⟩) hx.1).trans hx.2.2.1
  rw[h9]at this;exact this))
 have HS:=Aa h
 have HW:=Aa hw
 have H0:=Aa h0
 obtain⟨hb0,c4,f4,c2,n1',n2,n3,l1,l2,ei,e13,hmf⟩:=h.facts he13
 generalize hxb:x.blk=xb at *
 clear h h0 hc0 hc1 hnd hxf hw hx h9 hxb H HB hq hN
 rw[Qbj hs hbs]
 unfold Fi
 simp only
 go_enter_defers func129,ntmps129
 go_wp2_with fail
 refine(Ey _ _ _).mono ?_
 rintro en w2 ⟨rfl,hb2⟩
 have F2:=Aa ((Ha.init (k:=⟨[],[64],k.name⟩) HS.o).post hb2)
 clear hb2 c2
 have k0:=F2.o.2.1
 have k1:=Ab F2.o.2.2.1 1 rfl
 have k2:=Ab F2.o.2.2.1 2 rfl
 simp only[Nat.zero_add]at k1 k2
 have hE:=F2.o.1.env HW.o hbw
 have p0:=F2.o.1.1.c0
 have m1:=HM.o w2 hE
 have hlk:=HN.o w2 hE
 have hlj:=fun j=>HN.o (w2.drewN j) (below_drewN hE j)
 have x0:=HX0.o w2 hE
 go_wp2_with fail
 go_quiet (fail)
 have F3:=Aa (F2.o.post (below_drewN (Aq _ _) nq))
 clear p0 m1 hlk hlj k1 k2 F2 hE
 go_wp2_with fail
 refine(HR.o _ (F3.o.1.env HW.o hbw) F3.o.1.1).mono ?_
 rintro en w4 ⟨v,sl,t',sk',rfl,hv,hB,hxv,hlt,h1,h2⟩
 have F4:=Aa (F3.o.step hb0 hB)
 have hz3:=F3.o.2.2.2.2
 obtain⟨A7,c7,rfl⟩:=hv.form
 have HV:=Aa (hv.mono (Q:=fun c=>w.heap.size<=c/\c≠w.heap.size+1+1) fun c hc _=>by omega)
 have HX:=Aa hxv
 have H1:=Aa h1
 have H2:=Aa h2
 clear hv hB hxv h1 h2 HR F3
 unfold Gf
 go_wp2_with ((with_reducible refine Ac (op:=⟨none,.store 68 _ _,_,_,_,none⟩) rfl 68 _ _ rfl (w.heap.size+1+1) 0 (Ew v (.slice A7 v.kids.length c7)) ?_ ?_ ?_ ?_ ?_ ?_);rfl;rfl;(exact F4.o.2.2.2.1);kernel_rfl;(simp[Ew,Value.oneCell']);intro w9 HS9)
 exact Ha.door (v:=v) (sl:=.slice A7 v.kids.length c7) F4.o hb0 (by omega) HS9.o HV.o rfl HX.o hlt H1.o H2.o rfl
theorem Qe8{S:List Ty}{K:Kd->List UInt8->Option (Vl × List UInt8)}{t:Ty}{s:List UInt8}(h9:t.sort≠82)(h8:t.sort≠69):Sv S K t s=match Ag s with|none=>none|some (n,r)=>match Ed r with|none=>none|some (s,z)=>(Ap t.fields n).bind fun f=>(Cg (K f.kind) s).map fun v=>(.mk 85 [] n [v],z):=by
 unfold Sv
 rw[if_neg h9]
 cases Ag s with
 |none=>rfl
 |some y=>
  obtain⟨n,r⟩:=y
  simp only[if_neg h8]
  cases Ed r with
  |none=>cases Ap t.fields n<;>rfl
  |some z=>
   cases Ap t.fields n with
   |none=>rfl
   |some f=>simp only[Option.bind_some];cases Cg (K f.kind) z.1<;>rfl
theorem Qdy{S:List Ty}{K:Kd->List UInt8->Option (Vl × List UInt8)}{t:Ty}{s:List UInt8}(h9:t.sort=69):Sv S K t s=match Ag s with|none=>none|some (n,r)=>(Ap t.fields n).map fun _=>(.mk 69 [] n [],r):=by
 unfold Sv
 rw[if_neg (by rw[h9];decide)]
 cases Ag s with
 |none=>rfl
 |some y=>
  obtain⟨n,r⟩:=y
  simp only[if_pos h9]
  cases Ap t.fields n<;>rfl
theorem Yk{S:List Ty}{k:Kd}{s:List UInt8}{t:Ty}(hs:k.signs=[])(hb:k.base=[64])(ht:B9 S k.name=some t):skN S k s=if t.sort=82 then Qaj t.fields 1000 0 s else 0:=by
 unfold skN
 rw[if_pos ⟨hs,hb⟩,ht]
theorem Qmz{st:UInt8}{f:Fd}(h:Su st f):f.given.length<=14:=by
 by_cases hs:st=69
 ·rw[(h.2.2.2.1 hs).2];simp
 by_cases hg:f.given=[]
 ·rw[hg];simp
 have:=((h.2.2.2.2 hs).2 hg).2.2
 unfold Ce at this
 split at this
 ·split at this
  ·rename_i n hd
   have:=Bw.1 hd
   rw[this.2]
   have:=C9 5 n (by have e:10 ^ (5+1)=1000000:=rfl;omega)
   omega
  cases this
 split at this
 ·simp only[Bool.and_eq_true,decide_eq_true_eq]at this
  have h4:=this.2
  unfold Da at h4
  simp only[Bool.and_eq_true,decide_eq_true_eq,List.length_dropLast,List.length_drop]at h4
  omega
 split at this
 ·simp only[decide_eq_true_eq]at this;rw[this];simp
 cases this
theorem Qm9(w0:World)(p:Value)(XS:List PT)(hsc:To w0 p XS)(hS:Kt (Ah XS)):∀(d:Nat) (k:Kd),Cw k->Bu (Ah XS) k->IbV w0 p (Ah XS) d k:=by
 intro d
 induction d with
 |zero=>
  intro k hk hr b t sk e w hw hbw h he hl h0
  obtain rfl:e=13:=by omega
  exact Qj7 b p t sk _ k w h hl
 |succ d ih=>
  intro k hk hr b t sk e w hw hbw h he hl h0
  have he13:e<13:=by omega
  have hTy:∀t∈Ah XS,Ek t:=hS.1.1
  have hBd:∀(k:Kd),Cw k->∀(s:List UInt8) (v:Vl),s.length<=600->Cg (E9 (Ah XS) d k) s=some v->Bd v:=fun k hk s v hs hv=>Vj hTy d k v (Mc hTy d k s v [] hk (D3 hv)) (by have:=Sw d k s v [] (D3 hv);omega)
  unfold E9
  cases hs:k.signs with
  |cons c sg=>
   simp only
   rw[Tm hs]
   have hsl:sg.length<=100:=by have:=hk.2.2;unfold Be at this;rw[hs]at this;simp at this;omega
   have hp:=(Jk hk).1
   have hrp:Bu (Ah XS) k.part:=hr
   rcases Kl hk hs with rfl|rfl
   ·rw[if_pos rfl]
    exact Qnf w0 (Ah XS) d b p t sk e k w hw hbw h he hl h0 sg hs hsl (ih k.part hp hrp) _ (by cases Ag t with|none=>rfl|some y=>obtain⟨n,r⟩:=y;simp only;split;rfl;cases Df (E9 (Ah XS) d k.part) n r<;>rfl)
   rw[if_neg (by decide)]
   exact Qmx w0 (Ah XS) d b p t sk e k w hw hbw h he hl h0 sg hs hsl (ih k.part hp hrp) _ (by cases t with|nil=>rfl|cons x r=>simp only;split;rfl;split;cases E9 (Ah XS) d k.part r<;>rfl;rfl)
  |nil=>
   simp only
   by_cases h1:k.base=[110]
   ·rw[if_pos h1,Nj (by rw[h1];decide)];exact Qp1 b p t sk e k w h he13 hl h0 hs h1 _ rfl
   rw[if_neg h1]
   by_cases h2:k.base=[116]
   ·rw[if_pos h2,Nj (by rw[h2];decide)];exact Qqi b p t sk e k w h he13 hl h0 hs h2 _ rfl
   rw[if_neg h2]
   by_cases h3:k.base=[102]
   ·rw[if_pos h3,Nj (by rw[h3];decide)];exact Qp3 b p t sk e k w h he13 hl h0 hs h3 _ (by cases t<;>rfl)
   rw[if_neg h3]
   have h64:k.base=[64]:=by
    rcases hk.2.1 with h|⟨h|h|h,_⟩
    ·exact h.1
    ·exact absurd h h1
    ·exact absurd h h2
    exact absurd h h3
   have hnm:k.name.length<=100:=by
    rcases hk.2.1 with h|⟨_,h⟩
    ·have:=(Fc.1 h.2).2.1;omega
    rw[h];simp
   have hr2:=hr h64
   have hfp:=Jr XS k.name
   rw[hfp]at hr2
   cases hx:Fh XS k.name with
   |none=>rw[hx]at hr2;cases hr2
   |some x=>
    rw[hx]at hfp
    rw[Yk hs h64 hfp,hfp]
    simp only[Option.map_some]
    have hxm:=(Gy hx).1
    have hxt:=(Gy hx).2.2
    have hxi:Tc w0 x:=by obtain⟨_,_,_,_,_,_,_,_,_,_,h6,_⟩:=hsc;exact h6 x hxm
    have hto:=hTy x.ty (List.mem_map_of_mem hxm)
    by_cases h9:x.ty.sort=69
    ·rw[if_neg (by rw[h9];decide)]
     exact Qm8 w0 b p XS hsc t sk e k w hw hbw h he13 hl h0 hs h64 hnm x hx hxi h9 _ (Qdy h9)
    have hfk:∀f∈x.ty.fields,Cw f.kind/\Bu (Ah XS) f.kind/\f.given.length<=1000:=fun f hf=>
     ⟨(Na hTy hxt h9 hf).1,hS.2.1 x.ty (Bj hxt).1 h9 f hf,by have:=Qmz (hto.2.2.1.1 f hf);omega⟩
    have HF:∀n f,Ap x.ty.fields n=some f->IbV w0 p (Ah XS) d f.kind/\Cw f.kind/\Bu (Ah XS) f.kind/\f.given.length<=1000:=fun n f hf=>⟨ih f.kind (hfk f (Ay hf).2).1 (hfk f (Ay hf).2).2.1,hfk f (Ay hf).2⟩
    by_cases h5:x.ty.sort=85
    ·rw[if_neg (by rw[h5];decide)]
     exact Qmt w0 b p XS hsc (Ah XS) d t sk e k w hw hbw h he hl h0 hs h64 hnm x hx hxi h5 (fun n f hf=>(HF n f hf).1) _ (Qe8 (by rw[h5];decide) h9)
    have h82:x.ty.sort=82:=by
     rcases hto.1 with h|h|h
     ·exact h
     ·exact absurd h h5
     exact absurd h h9
    rw[if_pos h82]
    exact Qmk w0 b p XS hsc hS d t sk e k w hw hbw h he hl h0 hs h64 hnm x hx hxi h82 HF (fun n f s v hf hsl hv=>hBd f.kind (HF n f hf).2.1 s v hsl hv) _ _ (by unfold Sv;rw[if_pos h82];cases Dc (Ah XS) (E9 (Ah XS) d) x.ty.fields 1000 0 t<;>rfl) rfl
def Px(ps:List (Fd × Vl)):Option (List (Fd × Vl) × List UInt8)->Option (List (Fd × Vl) × List UInt8)
 |some (us,z)=>some (ps++us,z)
 |none=>none
structure RI(S:List Ty)(K:Kd->List UInt8->Option (Vl × List UInt8))(fs:List Fd)(t1:List UInt8)(b1:Bool)(ps:List (Fd × Vl))(last:Nat)(tt:List UInt8):Prop where
 eq:b1=false->Eo S K fs 201 0 t1=Px ps (Eo S K fs (201 - ps.length) last tt)
 len:Du ((ps.map Ea).map Aw)+tt.length<=t1.length
 bd:∀p∈ps,Bd (Ea p)
 lo:ps.length<=last
 hi:last<=200
def RE(S:List Ty)(K:Kd->List UInt8->Option (Vl × List UInt8))(fs:List Fd)(t1:List UInt8)(b1:Bool)(vs:List Vl)(tt:List UInt8)(bb:Bool)(N:Nat):Prop:=
 ∃ps:List (Fd × Vl),(if b1 then none else Eo S K fs 201 0 t1)=(if bb then none else match As 125 tt with|some z=>some (ps,z)|none=>none)/\(bb=false->vs=ps.map Ea)/\Du (vs.map Aw)+tt.length<=t1.length+8*N+1/\(∀x∈vs,Bd x)/\vs.length<=201
section
variable {S:List Ty} {K:Kd->List UInt8->Option (Vl × List UInt8)} {fs:List Fd} {t1 tt t' t'':List UInt8} {b1:Bool} {ps:List (Fd × Vl)} {last N:Nat} {g:Fd} {x:Vl}
theorem RI.init:RI S K fs t1 b1 [] 0 t1:=⟨fun _=>by cases h:Eo S K fs 201 0 t1<;>simp[Px,h],by simp[Du],by simp,Al _,by omega⟩
theorem RI.bad(h:RI S K fs t1 true ps last tt):RE S K fs t1 true (ps.map Ea) tt true N:=
 ⟨ps,by simp,fun h=>Bool.noConfusion h,by have:=h.len;omega,fun y hy=>by obtain⟨p,hp,rfl⟩:=ay.1 hy;exact h.bd p hp,by have:=h.lo;have:=h.hi;simp;omega⟩
theorem RI.fuel(h:RI S K fs t1 b1 ps last tt):∃m,201 - ps.length=m+1:=⟨200 - ps.length,by have:=h.lo;have:=h.hi;omega⟩
theorem RI.step(h:RI S K fs t1 false ps last tt)(hK:Dh K fs tt=some ((g,x),t'))(hl:last<g.tag)(hne:Aw x≠Kr S g)(hlen:tt.length=(Aw (Ea (g,x))).length+t'.length)(hc:As 44 t'=some t'')(hB:Bd (Ea (g,x)))(hg:g.tag<=200):
  RI S K fs t1 false (ps++[(g,x)]) g.tag t'':=by
 obtain⟨m,hm⟩:=h.fuel;have e:t'=44::t'':=Cs.1 hc;refine⟨fun _=>?_,?_,fun p hp=>?_,by have:=h.lo;simp;omega,hg⟩
 ·rw[h.eq rfl,hm,show 201 - (ps++[(g,x)]).length=m by simp;omega];conv=>lhs;unfold Eo
  rw[hK];simp only;rw[if_neg eQ,hc];simp only;cases Eo S K fs m g.tag t''<;>simp[Px]
 ·have:=h.len;rw[aA,aA,Mw];simp[Ev,Du]at this ⊢;rw[e]at hlen;simp at hlen;omega
 rcases af.1 hp with hp|hp
 ·exact h.bd p hp
 rw[ar]at hp;subst hp;exact hB
theorem RI.stop(h:RI S K fs t1 false ps last tt)(hs:∀y,Dh K fs tt=some y->y.1.1.tag<=last\/Aw y.1.2=Kr S y.1.1)(hl:t'.length<=tt.length):RE S K fs t1 false (ps.map Ea) t' true N:=by
 obtain⟨m,hm⟩:=h.fuel;refine⟨ps,?_,fun h=>Bool.noConfusion h,by have:=h.len;omega,fun y hy=>by obtain⟨p,hp,rfl⟩:=ay.1 hy;exact h.bd p hp,by have:=h.lo;have:=h.hi;simp;omega⟩;rw[if_neg aL,h.eq rfl,hm];unfold Eo;cases hk:Dh K fs tt with
 |none=>rfl
 |some y=>
  obtain⟨p,z⟩:=y;simp only;rw[if_pos (hs _ hk)];rfl
theorem RI.brk(h:RI S K fs t1 false ps last tt)(hx:∀y,Dh K fs tt=some y->y=((g,x),t'))(hl:last<g.tag)(hne:Aw x≠Kr S g)(hc:Bg [44] t' (Dh K fs tt).isNone=none)(hB:Bd (Ea (g,x)))
  (hn:(Aw (Ea (g,x))).length+t'.length<=tt.length+8*N):RE S K fs t1 false (ps.map Ea++[Ea (g,x)]) t' (Dh K fs tt).isNone N:=by
 obtain⟨m,hm⟩:=h.fuel;refine⟨ps++[(g,x)],?_,fun _=>by simp,?_,?_,by have:=h.lo;have:=h.hi;simp;omega⟩
 ·rw[if_neg aL,h.eq rfl,hm];unfold Eo;cases hk:Dh K fs tt with
  |none=>rfl
  |some y=>
   have:=hx y hk;subst this;rw[hk,Cp]at hc;simp only[Option.isNone_some,an,if_false]at hc ⊢;rw[if_neg eQ,hc];simp only;cases As 125 t'<;>simp[Px]
 ·have:=h.len;rw[aA,Mw];simp[Ev,Du]at this ⊢;omega
 intro y hy;rcases af.1 hy with hy|hy
 ·obtain⟨p,hp,rfl⟩:=ay.1 hy;exact h.bd p hp
 rw[ar]at hy;subst hy;exact hB
theorem RE.fin{vs:List Vl}{bb:Bool}{t:List UInt8}(h:RE S K fs t1 b1 vs tt bb N)(h1:t1=(Bg [123] t false).getD t)(hb1:b1=(Bg [123] t false).isNone)(h2:Bg [125] t1 b1=none):
  (match As 123 t with
   |none=>none
   |some r=>match As 125 r with
    |some q=>some (Vl.mk 82 [] 0 [],q)
    |none=>match Eo S K fs 201 0 r with|some (ps,q)=>some (.mk 82 [] 0 (ps.map Ea),q)|none=>none) =
  if (Bg [125] tt bb).isNone then none else some (.mk 82 [] 0 vs,(Bg [125] tt bb).getD tt):=by
 obtain⟨ps,h3,h4,_⟩:=h;rw[Cp]at h1 hb1 h2 ⊢;simp only[an,if_false]at h1 hb1;cases hy:As 123 t with
 |none=>
  rw[hy]at hb1;simp only[Option.isNone_none]at hb1;subst hb1;simp only[if_true]at h3;simp only;cases bb with
  |true=>simp
  |false=>
   simp only[an,if_false]at h3 ⊢;cases hz:As 125 tt with
   |none=>simp
   |some z=>rw[hz]at h3;cases h3
 |some r=>
  rw[hy]at h1 hb1;simp only[Option.isNone_some,Option.getD_some]at h1 hb1;subst h1 hb1;simp only[an,if_false]at h2 h3;simp only;rw[h2];simp only;rw[h3];cases bb with
  |true=>simp
  |false=>
   rw[h4 rfl];simp only[an,if_false];cases As 125 tt<;>simp
end
inductive Dw:Vl->Prop
 |fd {tx:List UInt8} {tg:Nat} {x:Vl} (h:Dw x):Dw (.mk 61 tx tg [x])
 |no {w:UInt8} {tx:List UInt8} {tg:Nat} {ks:List Vl} (hw:w≠61) (h:∀x∈ks,Dw x):Dw (.mk w tx tg ks)
theorem Ge.dw{S:List Ty}:∀{d:Nat} {k:Kd} {v:Vl},Ge S d k v->Dw v:=by
 intro d;induction d with
 |zero=>intro k v h;cases h
 |succ d ih=>
  intro k v h;cases h with
  |n=>exact .no aL aK
  |t=>exact .no aL aK
  |f=>exact .no aL aK
  |lst hs hl h=>exact .no aL fun x hx=>ih (h x hx)
  |non=>exact .no aL aK
  |som hs h=>exact .no aL fun x hx=>by rw[ar]at hx;subst hx;exact ih h
  |enm=>exact .no aL aK
  |uni hs hb ht h5 hf h=>exact .no aL fun x hx=>by rw[ar]at hx;subst hx;exact ih h
  |rcd hs hb ht h2 hf h hn hp=>
   refine .no aL fun x hx=>?_;obtain⟨p,hp,rfl⟩:=ay.1 hx;exact .fd (ih (h p hp))
theorem Qbh(x:Vl):∀l:List Vl,Jj (l++[x])=max (Jj l) (J4 x)
 |[]=>by simp[Jj]
 |y::l=>by rw[aw,Jj,Qbh x l,Jj];omega
theorem Qbe(P:Nat->Prop){v:Vl}(hd:Dw v):∀(sl:Value) (w:World),Eb P w sl v.kids->J4 v<=100000 ->
  Calls prog 91 #[Gf v sl] w fun e w'=>e=.returned (.int .i64 (J4 v:Int))/\Below w w w':=by
 induction hd with
 |@fd tx tg x hx ih=>
  intro sl w h hl;obtain⟨A,c,xs,rfl,hks,hlx,hr,hP,hk⟩:=h;obtain⟨⟨y,ys⟩,rfl⟩:∃a,xs=[a]:=by
   cases xs with
   |nil=>simp[Av,Vl.kids]at hks
   |cons a l=>cases l with
    |nil=>exact⟨a,rfl⟩
    |cons b l=>simp[Av,Vl.kids]at hks
  obtain rfl:x=y:=by simpa [Av,Vl.kids]using hks
  have hdp:J4 (.mk 61 tx tg [x])=J4 x:=by simp[J4,Jj]
  rw[hdp]at hl ⊢;have hkx:=hk (x,ys) aK;obtain⟨A7,c7,e7⟩:=hkx.form;simp only at e7;subst e7;obtain⟨b,off,rfl,hb,d0,d1,d2,d3⟩:=Eb.at_ hr (show 0<1 by decide);simp only[List.getElem_cons_zero,Nat.zero_mul,Nat.add_zero]at d0 d1 d2 d3;have Hkx:=Aa hkx;have Ih:=Aa (fun W h=>ih (.slice A7 x.kids.length c7) W h hl);have hbn:¬(b=w.heap.size):=aI;generalize J4 x=n at *;unfold Gf at Ih ⊢;clear hk hr hP hks hkx ih;simp only[Vl.what,Vl.text,Vl.tag,List.length_singleton];go_enter func91,ntmps91;go_wp2_with fail;refine(Ih.o _ (Hkx.o.after ((Aq _ _).alloc (Al _) _))).mono ?_;rintro e w1 ⟨rfl,hb1⟩;have Hb1:=Aa (((Aq w.heap.size w).alloc (Al _) _).trans (hb1.mono aK));clear hb1;go_wp2_with fail;exact ja
 |@no wh tx tg ks hw hks ih=>
  intro sl w h hl;have t61:((wh.toNat:Int) == 61)=false:=At (d:=61) hw;have hdp:J4 (.mk wh tx tg ks)=Jj ks+1:=by rw[J4,if_neg hw]
  rw[hdp]at hl ⊢;simp only[Vl.kids]at h;obtain⟨A,c,xs,rfl,rfl,hlx,hr,hP,hk⟩:=h;have Hdp:=Aa hdp;have Hr:=Aa hr;have Hk:=Aa hk;have Hle:=Aa ((Yf (Av xs) 100000).1 aI);have Ih:=Aa (fun x hx s W h=>ih x hx s W h (Hle.o x hx));clear hr hk hP ih hks hw;unfold Gf;simp only[Vl.what,Vl.text,Vl.tag];have hxl:(Av xs).length=xs.length:=eJ;have HF:=Aa (rfl:Av xs=xs.map (·.1));go_enter func91,ntmps91;go_wp2_with fail;obtain⟨w1,hw1⟩:∃w1,w1=w.alloc (.cells #[.int .u8 (wh.toNat:Int),tx,(tg:Int),.slice A xs.length c] 68):=⟨_,rfl⟩
  rw[<-hw1];have Hb1:=Aa (show Below w w w1 by rw[hw1];exact(Aq _ _).alloc (Al _) _);have hz1:w.heap.size<w1.heap.size:=cH;have Hr1:=Aa (Hr.o.below Hb1.o);have Hk1:=Aa (fun x hx=>(Hk.o x hx).after Hb1.o);clear hw1 Hr Hk;go_loopw [17,3] (fun i u wr=>∃m:Nat,i=.int .i64 m/\u=.int .i64 (Jj ((xs.take m).map (·.1)):Int)/\m<=xs.length/\Hid (Jj ((xs.take m).map (·.1))<=100000)/\Hid (Below w1 w1 wr)) (fun i _ _=>xs.length - (intOf i).toNat)
  case atStart=>exact⟨0,rfl,rfl,ag _,ag _,Aq _ _⟩
  case round=>
   obtain⟨m,rfl,rfl,hm,hdm,Hbr⟩:=hrel;have m1:(0:Int)<=(m:Int):=aI;by_cases hlt:m<xs.length
   ·have m2:(m:Int)<(xs.length:Int):=aI;obtain⟨b,off,rfl,hb,d0,d1,d2,d3⟩:=Eb.at_ (Hr1.o.below Hbr.o) hlt;have Hkx:=Aa ((Hk1.o _ (ae hlt)).after Hbr.o);have Hmx:=@Aa (xs[m].1∈Av xs) (aq (ae hlt));have Hts:=Aa (Cv xs m hlt);have hsz:w1.heap.size<=wr.heap.size:=Hbr.o.size;have hbn:¬(b=wr.heap.size):=aI;generalize xs[m]=x at *;obtain⟨y,ys⟩:=x;obtain⟨A7,c7,e7⟩:=Hkx.o.form;simp only at e7 d0 d1 d2 d3 Hkx Hmx;subst e7;have hyl:=Hle.o y Hmx.o;have Hx:=Aa (fun W=>Ih.o y Hmx.o (.slice A7 y.kids.length c7) W);have Hsn:=Aa (show Jj ((xs.take (m+1)).map (·.1))=max (Jj ((xs.take m).map (·.1))) (J4 y)by rw[Hts.o,aA];exact Qbh y _);unfold Gf at Hx;have hdm':=hdm.o;generalize Jj ((xs.take m).map (·.1))=q at *;generalize J4 y=n at *;go_wp2_with fail;refine(Hx.o _ (Hkx.o.after ((Aq _ _).alloc (Al _) _))).mono ?_;rintro e w3 ⟨rfl,hb3⟩;have Hb3:=Aa (((Aq wr.heap.size wr).alloc (Al _) _).trans (hb3.mono aK));clear hb3;go_wp2_with fail;go_roundw
    case rel=>exact⟨m+1,by go_num,by rw[Hsn.o];congr 1;omega,by omega,by rw[Hsn.o];show max q n<=100000;omega,Hbr.o.trans (Hb3.o.mono hsz)⟩
    case measure=>simp[intOf];omega
   ·obtain rfl:m=xs.length:=aI;have Hb6:=Aa (Hb1.o.trans (Hbr.o.mono aI));have HD:=Aa (show Jj ((xs.take xs.length).map (·.1))=Jj (Av xs)by rw[List.take_length];rfl);have hd2:=hdm.o;generalize Jj ((xs.take xs.length).map (·.1))=q at *;go_wp2_with fail;go_ret;exact⟨Qn1 (by have:=HD.o;have:=Hdp.o;omega),Hb6.o⟩
theorem Qk6(P:Nat->Prop)(v:Vl)(hb:Bd v)(hd:Dw v)(h12:J4 v<=1000)(sl:Value)(w:World)(h:Eb P w sl v.kids)(hl:(Aw v).length<=1000000):
  Calls prog 43 #[Gf v sl] w fun e w'=>e=.returned (.bool (decide ((Aw v).length<=400/\J4 v<=12)))/\Below w.heap.size w w':=by
 have HP:=Aa (fun W (hW:Below w.heap.size w W)=>Pd P hb sl W (h.after hW))
 have HD:=Aa (fun W (hW:Below w.heap.size w W)=>Qbe P hd sl W (h.after hW) (by omega))
 obtain⟨A,c,rfl⟩:=h.form
 generalize Aw v=px at *
 generalize J4 v=dv at *
 unfold Gf at *
 clear h hb hd
 obtain⟨w1,hw1⟩:∃w1,w1=w.alloc (.cells #[.int .u8 (v.what.toNat:Int),.string ⟨v.text.toArray⟩,.int .i64 (v.tag:Int),.slice A v.kids.length c] 68):=⟨_,rfl⟩
 have hb1:Below w.heap.size w w1:=by rw[hw1];exact(Aq _ _).alloc (Al _) _
 have y0:w1.cell? ⟨w.heap.size,0,none⟩=some (.int .u8 (v.what.toNat:Int)):=by rw[hw1];simp[go_sem]
 have y1:w1.cell? ⟨w.heap.size,1,none⟩=some (.string ⟨v.text.toArray⟩):=by rw[hw1];simp[go_sem]
 have y2:w1.cell? ⟨w.heap.size,2,none⟩=some (.int .i64 (v.tag:Int)):=by rw[hw1];simp[go_sem]
 have y3:w1.cell? ⟨w.heap.size,3,none⟩=some (.slice A v.kids.length c):=by rw[hw1];simp[go_sem]
 have l1:w.heap.size<w1.heap.size:=by rw[hw1];simp
 have Hw1:=Aa hw1
 have Hb1:=Aa hb1
 clear hw1 hb1
 by_cases h4:px.length<=400
 ·have t1:decide ((px.length:Int)<=400)=true:=decide_eq_true (by omega)
  have t2:decide ((dv:Int)<=12)=decide (px.length<=400/\dv<=12):=decide_eq_decide.2 (by omega)
  generalize decide (px.length<=400/\dv<=12)=bb at *
  clear h4
  go_enter func43,ntmps43
  go_wp2_with fail
  rw[<-Hw1.o]
  refine(HP.o w1 Hb1.o).mono ?_
  rintro e w2 ⟨rfl,hb2⟩
  have Hb2:=Aa (Hb1.o.trans (hb2.mono Hb1.o.size))
  replace y0:=(hb2.cell (p:=⟨w.heap.size,0,none⟩) l1).trans y0
  replace y1:=(hb2.cell (p:=⟨w.heap.size,1,none⟩) l1).trans y1
  replace y2:=(hb2.cell (p:=⟨w.heap.size,2,none⟩) l1).trans y2
  replace y3:=(hb2.cell (p:=⟨w.heap.size,3,none⟩) l1).trans y3
  replace l1:=Nat.lt_of_lt_of_le l1 hb2.size
  clear hb2
  go_wp2_with fail
  refine(HD.o w2 Hb2.o).mono ?_
  rintro e w3 ⟨rfl,hb3⟩
  have Hb3:=Aa (Hb2.o.trans (hb3.mono Hb2.o.size))
  clear hb3
  go_wp2_with fail
  go_ret
  exact⟨rfl,Hb3.o⟩
 have t1:decide ((px.length:Int)<=400)=false:=decide_eq_false (by omega)
 have hE:=Aa (show decide (px.length<=400/\dv<=12)=false from decide_eq_false (by omega))
 have h5:400<px.length:=by omega
 clear h4
 go_enter func43,ntmps43
 go_wp2_with fail
 rw[<-Hw1.o]
 refine(HP.o w1 Hb1.o).mono ?_
 rintro e w2 ⟨rfl,hb2⟩
 have Hb2:=Aa (Hb1.o.trans (hb2.mono Hb1.o.size))
 clear hb2
 go_wp2_with fail
 go_ret
 exact⟨by rw[hE.o];rfl,Hb2.o⟩
def Re(S:List Ty)(k:Kd)(s:List UInt8):Option Vl:=
 if 600<s.length then none else match Cg (E9 S 13 k) s with|some v=>if (Aw v).length<=400/\J4 v<=12 then some v else none|none=>none
def Qo8(w:World)(q:Option Vl)(N:Nat)(en:Ending)(w':World):Prop:=
 (match q with
  |none=>en=.returned (.tuple #[Gf Eu (.slice none 0 0),.slice none 0 0,.bool false])
  |some v=>∃sl A c,en=.returned (.tuple #[Gf v sl,.slice A N c,.bool true])/\Eb (fun c=>w.heap.size<=c) w' sl v.kids)/\Below w.heap.size w w'
theorem Kg{P:Program}{fn:Func}{p q r:Tmp}{ty:TypeId}(h:fn.results=#[.cell p ty,.tmp q,.tmp r])(tmps:Array Value)(w:World)(b:Nat)(cs:List Value)(d:TypeDesc)(x y:Value)
  (hp:tmps.getD p undef=.pointer (some ⟨b,0,none⟩)) (hq:tmps.getD q undef=x) (hr:tmps.getD r undef=y) (hc:w.rangeAt b 0 cs) (hu:P.underlying ty=some d) (hd:d.isRow=true) (hi:(P.info? ty).map (·.size)=some cs.length):
  (results fn tmps).run P w=.ok (.tuple #[.agg cs.toArray,x,y]) w:=by
 have hp':tmps[p]?.getD undef=.pointer (some ⟨b,0,none⟩):=by simpa using hp
 have hq':tmps[q]?.getD undef=x:=by simpa using hq
 have hr':tmps[r]?.getD undef=y:=by simpa using hr
 simp[results,h,hp',hq',hr',asAddr,run_loadVar_mid w b 0 ty cs d hc hu hd hi]
theorem Qox{pp:Prop}(h:pp:=by
  go_wp2_with ((with_reducible refine Ac (op:=⟨none,.store 68 _ _,_,_,_,none⟩) rfl 68 _ _ rfl (w.heap.size+1) 0 [.int .u8 0,.string ⟨#[]⟩,.int .i64 0,.slice none 0 0] ?_ ?_ ?_ ?_ ?_ ?_);rfl;rfl;(first|exact T5.o _|exact T6.o);kernel_rfl;(simp[Value.oneCell']);intro w9 HS9)
  have HZ:w9.rangeAt (w.heap.size+1) 0 (Ew Eu (.slice none 0 0)):=by rw[HS9.o];first|exact World.rangeAt_setCells_same _ _ _ _ (T5.o _)|exact World.rangeAt_setCells_same _ _ _ _ T6.o
  exact bodyPost_ret (v:=.tuple #[.agg (Ew Eu (.slice none 0 0)).toArray,.slice none 0 0,.bool false]) (Kg results74 _ _ (w.heap.size+1) _ _ _ _ rfl rfl rfl HZ underlying68 rfl (by kernel_rfl)) rfl ⟨by rw[HQ.o];rfl,by rw[HS9.o];first|exact Ak _ (by omega) _ _ _ (B5.o _)|exact Ak _ (by omega) _ _ _ B6.o⟩):pp:=h
theorem Qa8(p:Value)(XS:List PT)(hS:Kt (Ah XS))(k:Kd)(hk:Cw k)(hr:Bu (Ah XS) k)(s:List UInt8)(w:World)(hsc:To w p XS)(hsl:s.length<=4000000)(q:Option Vl)(hq:q=Re (Ah XS) k s):
  Calls prog 74 #[p,Fi k,.string ⟨s.toArray⟩] w (Qo8 w q (skN (Ah XS) k s)):=by
 have HV:=Aa (fun W b (hW:Below w.heap.size w W) (hb:w.heap.size<=b) (h:Md W b p s false (.slice none 0 0) 0) (hl:s.length<=600)=>Qm9 w p XS hsc hS 13 k hk hr b s (.slice none 0 0) 0 W hW hb h rfl hl fun _=>rfl)
 have hTy:=hS.1.1
 have HG:=Aa (fun v r (h:E9 (Ah XS) 13 k s=some (v,r)) (hl:s.length<=600)=>(And.intro (Mc hTy 13 k s v r hk h) (show (Aw v).length<=12000 by have:=Sw 13 k s v r h;omega)))
 have HB:=Aa (fun v (h:Ge (Ah XS) 13 k v) (hl:(Aw v).length<=12000)=>Vj hTy 13 k v h (by omega))
 unfold Re at hq
 rw[Qbg]at hq
 have HQ:=Aa hq
 obtain⟨pb,hp⟩:∃pb,p=.pointer (some ⟨pb,0,none⟩):=by obtain⟨pb,A,c,mb,rfl,_⟩:=hsc;exact⟨pb,rfl⟩
 subst hp
 clear hsc hS hr hq hTy
 generalize E9 (Ah XS) 13 k s=r at *
 generalize skN (Ah XS) k s=N at *
 unfold Fi at *
 by_cases h6:600<s.length
 ·have h6':(600:Int)<(s.length:Int):=by omega
  have HQ:=Aa (show q=none from by rw[HQ.o,if_pos h6])
  go_enter func74,ntmps74
  go_wp2_with fail
  exact bodyPost_ret (v:=.tuple #[.agg (Ew Eu (.slice none 0 0)).toArray,.slice none 0 0,.bool false]) (Kg results74 _ _ (w.heap.size+1) _ _ _ _ rfl rfl rfl (by
   have:=Br (w.alloc (.cells #[.string ⟨k.signs.toArray⟩,.string ⟨k.base.toArray⟩,.string ⟨k.name.toArray⟩] 60)) (Ew Eu (.slice none 0 0)) 68
   rw[World.size_alloc]at this
   exact this) underlying68 rfl (by kernel_rfl)) rfl ⟨by rw[HQ.o];rfl,((Aq _ _).alloc (Al _) _).alloc (by simp) _⟩
 have h6':¬((600:Int)<(s.length:Int)):=by omega
 rw[if_neg h6]at HQ
 go_enter func74,ntmps74
 go_wp2_with fail
 generalize hwg:World.alloc (World.alloc (World.alloc _ _) _) _=w3
 have hb3:Below w.heap.size w w3:=by rw[<-hwg];exact(((Aq _ _).alloc (Al _) _).alloc (by simp) _).alloc (by simp;omega) _
 have hz3:w3.heap.size=w.heap.size+1+1+1:=by rw[<-hwg];simp
 have hJ:Md w3 (w.heap.size+1+1) (.pointer (some ⟨pb,0,none⟩)) s false (.slice none 0 0) 0:=by
  rw[<-hwg]
  have hbk:=Qk.new ((w.alloc (.cells #[.string ⟨k.signs.toArray⟩,.string ⟨k.base.toArray⟩,.string ⟨k.name.toArray⟩] 60)).alloc (.cells #[.int .u8 0,.string ⟨#[]⟩,.int .i64 0,.slice none 0 0] 68)) #[.pointer (some ⟨pb,0,none⟩),.string ⟨s.toArray⟩,.bool false,.slice none 0 0,.int .i64 0] 184
  rw[World.size_alloc,World.size_alloc]at hbk
  obtain⟨cs,T,hbk⟩:=hbk
  exact⟨by simp,⟨cs,T,hbk⟩,by simp[go_sem],by simp[go_sem],by simp[go_sem],by simp[go_sem],by simp[go_sem]⟩
 have hT:w3.there (w.heap.size+1) 0 4:=by
  rw[<-hwg]
  have:=Cu (w.alloc (.cells #[.string ⟨k.signs.toArray⟩,.string ⟨k.base.toArray⟩,.string ⟨k.name.toArray⟩] 60)) [.int .u8 0,.string ⟨#[]⟩,.int .i64 0,.slice none 0 0] 68
  rw[World.size_alloc]at this
  exact An this (show w.heap.size+1<w.heap.size+1+1 by omega) ((Aq _ _).alloc (by simp) _)
 clear hwg
 refine(HV.o w3 _ hb3 (by omega) hJ (by omega)).mono ?_
 rintro en w4 ⟨v,sl,s',sk',rfl,hv,hs4,hx,hlt,_,hsk⟩
 have J1:=hs4.1.c1
 have J2:=hs4.1.c2
 have J3:=hs4.1.c3
 have hb4:Below w.heap.size w w4:=hb3.grown hs4.2 hb3.size fun k hk=>by injection hk with hk;omega
 have T4:=Aa (Dn hT hs4.2 (by omega) (by simp))
 have hz4:=hs4.2.size
 have Hb4:=Aa hb4
 have hnb:¬(w.heap.size+1+1=w4.heap.size):=by omega
 have hbl:w.heap.size+1+1<w4.heap.size:=by omega
 obtain⟨A7,c7,rfl⟩:=hv.form
 have Hv:=Aa hv
 have T5:=Aa (fun o=>An T4.o (show w.heap.size+1<w4.heap.size by omega) ((Aq w4.heap.size w4).alloc (Al _) o))
 have B5:=Aa (fun o=>Hb4.o.alloc Hb4.o.size o)
 clear hs4 hv hJ hT hb3 HV hb4
 unfold Gf
 cases r with
 |none=>
  have HQ:=Aa (show q=none from HQ.o)
  clear hx hsk
  exact Qox
 |some y=>
  obtain⟨v0,z⟩:=y
  obtain⟨e1,e2⟩:=hx _ rfl
  simp only at e1 e2
  subst e1 e2
  cases s' with
  |cons c u=>
   have HQ:=Aa (show q=none from HQ.o)
   clear hx hsk
   exact Qox
  |nil=>
   obtain⟨hvo,hpl⟩:=HG.o v _ rfl (by omega)
   obtain⟨A6,c6,rfl⟩:=hsk rfl _ rfl
   have hd13:J4 v<=13:=(E7 _ _ _ _ hvo 13).1 hvo
   have HF:=Aa (fun W (h:Below w4.heap.size w4 W)=>Qk6 _ v (HB.o v hvo hpl) hvo.dw (by omega) (.slice A7 v.kids.length c7) W (Hv.o.after h) (by omega))
   unfold Gf at HF
   clear hx hsk hvo HG HB
   go_wp2_with fail
   refine(HF.o _ ((Aq _ _).alloc (Al _) _)).mono ?_
   rintro e w5 ⟨rfl,hb5⟩
   have hb5':Below w4.heap.size w4 w5:=((Aq w4.heap.size w4).alloc (Al _) _).trans (hb5.mono (by simp))
   have X5:=Aa (Ar (Br w4 (Ew v (.slice A7 v.kids.length c7)) 68) (by simp) hb5)
   have d0:=Ab X5.o 0 rfl
   have d1:=Ab X5.o 1 rfl
   have d2:=Ab X5.o 2 rfl
   have d3:=Ab X5.o 3 rfl
   simp only[Nat.zero_add]at d0 d1 d2 d3
   have e3:=(hb5'.cell (p:=⟨w.heap.size+1+1,3,none⟩) hbl).trans J3
   have T6:=Aa (An T4.o (show w.heap.size+1<w4.heap.size by omega) hb5')
   have B6:=Aa (Hb4.o.trans (hb5'.mono Hb4.o.size))
   clear T5 B5
   have V5:=Aa (Hv.o.after hb5')
   have hz5:=hb5'.size
   have hxz:=hb5.size
   clear hb5 hb5' J1 J2 J3 HF
   by_cases hfit:(Aw v).length<=400/\J4 v<=12
   ·have HQ:=Aa (show q=some v from by rw[HQ.o];simp only[whO];rw[if_pos hfit])
    have tf:decide ((Aw v).length<=400/\J4 v<=12)=true:=decide_eq_true hfit
    rw[tf]
    clear tf hfit
    go_wp2_with fail
    have hx5:w4.heap.size<w5.heap.size:=Nat.lt_of_lt_of_le (by simp) hxz
    have hbl5:w.heap.size+1+1<w5.heap.size:=by omega
    refine rgF (fun l u W=>(l 5=false->Below w5.heap.size w5 W)/\(l 5=true->∃W0,Below w5.heap.size w5 W0/\W=W0.setCells (w.heap.size+1) 0 (Ew v (.slice A7 v.kids.length c7)))) (fun W=>W.cell? ⟨w.heap.size+1+1,3,none⟩=some (.slice A6 N c6)) (fun l u W hR=>by
     cases h5:l 5 with
     |false=>exact((hR.1 h5).cell (p:=⟨w.heap.size+1+1,3,none⟩) hbl5).trans e3
     |true=>
      obtain⟨W0,h1,rfl⟩:=hR.2 h5
      exact((Ei (w.heap.size+1) (Ew v (.slice A7 v.kids.length c7)) 0 W0).cell ((h1.cell (p:=⟨w.heap.size+1+1,3,none⟩) hbl5).trans e3) (by simp))) ⟨fun _=>(Aq _ _).drew,fun h=>absurd h (by decide)⟩ ?_
    refine Ju (fun x=>x=.agg (Ew v (.slice A7 v.kids.length c7)).toArray) (by
     intro l u W hl hp hF hG hi K hK
     have h5:l 5=false:=(hi.o 5 (by rfl)).1
     have hb:=hF.o.1 h5
     have y0:=(hb.cell (p:=⟨w4.heap.size,0,none⟩) hx5).trans d0
     have y1:=(hb.cell (p:=⟨w4.heap.size,1,none⟩) hx5).trans d1
     have y2:=(hb.cell (p:=⟨w4.heap.size,2,none⟩) hx5).trans d2
     have y3:=(hb.cell (p:=⟨w4.heap.size,3,none⟩) hx5).trans d3
     clear hp hi hG hb d0 d1 d2 d3
     go_simp
     exact hK (.agg (Ew v (.slice A7 v.kids.length c7)).toArray) _ _ rfl hF.o rfl) ?_
    iterate 3 refine sq ?_
    refine Ju (fun x=>x=.slice A6 N c6) (by
     intro l u W hl hp hF hG hi K hK
     simp[Region.binds,Co]at hp
     clear hi
     go_simp
     exact hK _ _ _ rfl hF.o (by simp[Act.put,hp])) ?_
    refine Ju (fun _=>True) (by
     intro l u W hl hp hF hG hi K hK
     have h0:=(hp ⟨0,.data⟩ (by simp) rfl).2
     have h0:u 0=.agg (Ew v (.slice A7 v.kids.length c7)).toArray:=h0
     have hb:=hF.o.1 hl
     simp only[Region.wanted,if_true]
     refine wp_store_mid 68 _ _ rfl (w.heap.size+1) 0 (Ew v (.slice A7 v.kids.length c7)).toArray rfl h0 (An T6.o (by omega) hb) (by kernel_rfl) (by simp[Ew,Value.oneCell']) ?_
     exact hK undef _ _ Ae ⟨fun h=>by simp at h,fun _=>⟨W,hb,rfl⟩⟩ rfl) ?_
    iterate 2 refine sq ?_
    refine dn fun l u W hll _ hR=>?_
    obtain⟨W0,hb0,rfl⟩:=hR.o.2 (hll 5 (by decide))
    have Hb0:=Aa hb0
    clear hll hR hb0
    go_wp2_with fail
    refine bodyPost_ret (v:=.tuple #[.agg (Ew v (.slice A7 v.kids.length c7)).toArray,.slice A6 N c6,.bool true]) (Kg results74 _ _ (w.heap.size+1) _ _ _ _ rfl rfl rfl (World.rangeAt_setCells_same _ _ _ (Ew v (.slice A7 v.kids.length c7)) (An T6.o (by omega) Hb0.o)) underlying68 rfl (by kernel_rfl)) rfl ?_
    rw[HQ.o]
    exact⟨⟨_,A6,c6,rfl,((V5.o.after Hb0.o).set (B:=w.heap.size+1) (by omega) _).mono fun c hc _=>by omega⟩,Ak _ (by omega) _ _ _ (B6.o.trans (Hb0.o.mono (by omega)))⟩
   have HQ:=Aa (show q=none from by rw[HQ.o];simp only[whO];rw[if_neg hfit])
   have tf:decide ((Aw v).length<=400/\J4 v<=12)=false:=decide_eq_false hfit
   rw[tf]
   clear tf hfit
   exact Qox
end
end Go.Proofs.YtmmhmlmfhpfgbaaGreatDoor
