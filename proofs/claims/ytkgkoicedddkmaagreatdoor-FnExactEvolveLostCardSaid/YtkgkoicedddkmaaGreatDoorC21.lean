/- Texts joined. Conditions: as each theorem names them. -/
import Derived.Maps.AppendAt
import Derived.Test.YtkgkoicedddkmaaGreatDoorC18
import Derived.Test.YtkgkoicedddkmaaGreatDoorC20
set_option maxRecDepth 100000
set_option maxHeartbeats 32000000
set_option linter.unusedVariables false
set_option linter.unusedSimpArgs false
namespace Go.Proofs.YtkgkoicedddkmaaGreatDoor
open Go.RowKit Go.Proofs.Tryz
section
attribute [local go_sem] Qiz Qii Qib Qgw ByteArray.mk_append_mk
theorem Q9.tys{w:World}{p:Value}{xs:List PT}(h:Q9 w p xs):∀x∈xs,Px w x:=by
 obtain⟨_,_,_,_,_,_,_,_,_,_,h,_⟩:=h
 exact h
theorem Qb2(s:List UInt8)(w:World)(hs:s.length<=400):
  Calls prog 72 #[.string ⟨s.toArray⟩] w (Gq (Cl s) w):=by
 have HF:=Aa (show Cl s=(match Fe (s.length+1) s []with|none=>none|some S=>if Fw S/\(∀t∈S,Bv S 9 t=true)then some S else none)from if_neg (by omega))
 have t1:¬(400:Int)<(s.length:Int):=by omega
 have hmm:=@run_makeMap prog
 go_enter func72,ntmps72
 go_wp2_with fail
 clear hmm
 have HM0:=Aa (show Dd prog 9 (.pointer none) ((w.alloc (.map #[] 0)).alloc (.cells #[.slice none 0 0,.map (some w.heap.size)] 122)) w.heap.size 0 (V0 [])from((Dd.made w prog 9 (.pointer none)).alloc _).of_eq (fun l hl=>by cases l<;>rfl))
 have HR0:=Aa (show ((w.alloc (.map #[] 0)).alloc (.cells #[.slice none 0 0,.map (some w.heap.size)] 122)).rangeAt (w.heap.size+1) 0 [.slice none 0 0,.map (some w.heap.size)]from by
  have:=Bw (w.alloc (.map #[] 0)) [.slice none 0 0,.map (some w.heap.size)] 122
  simpa using this)
 have HK0:=Aa (show ((w.alloc (.map #[] 0)).alloc (.cells #[.slice none 0 0,.map (some w.heap.size)] 122)).there (w.heap.size+1) 0 2 from by
  have:=Cc (w.alloc (.map #[] 0)) [.slice none 0 0,.map (some w.heap.size)] 122
  simpa using this)
 have HB0:=Aa (show Below w.heap.size w ((w.alloc (.map #[] 0)).alloc (.cells #[.slice none 0 0,.map (some w.heap.size)] 122))from((Aq _ _).alloc (Ap _) _).alloc (by simp) _)
 have HO0:=Aa (World.ownsRow_nil ((w.alloc (.map #[] 0)).alloc (.cells #[.slice none 0 0,.map (some w.heap.size)] 122)) (w.heap.size+2) 118 1)
 go_loopw [0] (fun l wr=>∃(u:List UInt8) (fuel:Nat) (xs:List PT) (tv:Value),l=.string ⟨u.toArray⟩/\u.length<=s.length/\u.length<fuel/\Hid (Fe (s.length+1) s []=Fe fuel u (Ae xs))/\xs.length<=8 /\
   Hid (wr.rangeAt (w.heap.size+1) 0 [tv,.map (some w.heap.size)])/\Hid (wr.there (w.heap.size+1) 0 2)/\Hid (wr.ownsRow (w.heap.size+2) 118 1 tv xs.length (xs.map (·.ptr))) /\
   Hid (Pd wr w.heap.size xs)/\Hid (Tw wr (w.heap.size+2) tv xs)/\Hid (Below w.heap.size w wr)/\w.heap.size+2<=wr.heap.size) (fun l _=>Qr l)
 case atStart=>exact⟨s,s.length+1,[],.slice none 0 0,rfl,Ap _,by omega,rfl,by simp,HR0.o,HK0.o,HO0.o,HM0.o,⟨by simp,List.Pairwise.nil⟩,HB0.o,by simp⟩
 case round=>
  clear HM0 HR0 HK0 HB0 HO0
  obtain⟨wo,rfl⟩:∃wo:World,wo=wr:=⟨_,rfl⟩
  obtain⟨u,fuel,xs,tv,rfl,hul,hfu,hlin,hx8,hT,hK,hown,hnm,hty,hbr,hzr⟩:=hrel
  obtain⟨A,cA,rfl,hrow⟩:=B9.own hown.o
  have Hrow:=Aa hrow
  have s0:wo.cell? ⟨w.heap.size+1,0,none⟩=some (.slice A xs.length cA):=by simpa using Ab hT.o 0 rfl
  have s1:wo.cell? ⟨w.heap.size+1,1,none⟩=some (.map (some w.heap.size)):=by simpa using Ab hT.o 1 rfl
  obtain⟨fuel,rfl⟩:∃f,fuel=f+1:=⟨fuel - 1,by omega⟩
  clear hrow
  by_cases hu:u=[]
  ·subst hu
   have Hlin:=Aa (show Fe (s.length+1) s []=some (Ae xs)by rw[hlin.o];simp[Fe])
   have hgood:=Qiy.1 Hlin.o
   have Htok:=Aa (show ∀x∈xs,Ep x.ty from fun x hx=>hgood.1.1 x.ty (List.mem_map_of_mem (f:=(·.ty)) hx))
   have HF2:=Aa (show Cl s=if Fw (Ae xs)/\(∀t∈Ae xs,Bv (Ae xs) 9 t=true)then some (Ae xs)else none from by rw[HF.o,Hlin.o])
   have HSC:=Aa (show Q9 wo (.pointer (some ⟨w.heap.size+1,0,none⟩)) xs from⟨w.heap.size+1,A,cA,w.heap.size,rfl,by omega,s0,s1,by have:=Hrow.o;simpa using this,hnm.o,fun x hx=>(hty.o.1 x hx).1,hty.o.2⟩)
   have Hrow2:=Aa (show B9 wo A xs.length (xs.map (·.ptr))from Hrow.o)
   have HSL:=Aa (show Qt w.heap.size wo (.pointer (some ⟨w.heap.size+1,0,none⟩)) xs from⟨w.heap.size+1,A,cA,w.heap.size,rfl,by omega,s0,s1,Hrow2.o,hnm.o,fun x hx=>(hty.o.1 x hx).1,hty.o.2,by omega,Ap _,fun g o _ eA=>by
    have:=(hown.o.lt g (by rw[eA];rfl)).1
    omega,fun x hx=>⟨by have:=(hty.o.1 x hx).2.1.1;omega,fun k hn hk=>by have:=(hty.o.1 x hx).2.1.2 k hn hk;omega⟩⟩)
   clear hgood hlin hT hK hown hnm hty Hrow HF Hlin
   have S0:=Aa s0
   go_wp2_with fail
   clear s0 s1
   go_loopw [84] (fun i wr=>∃k:Nat,i=.int .i64 k/\k<=xs.length/\Hid (∀x∈xs.take k,x.ty.sort≠69->∀f∈x.ty.fields,Bx (Ae xs) f.kind)/\Hid (Below wo.heap.size wo wr)) (fun i _=>xs.length - (intOf i).toNat)
   case atStart=>exact⟨0,rfl,Nat.zero_le _,by intro x hx;simp at hx,Aq _ _⟩
   case round=>
    obtain⟨wp,rfl⟩:∃wp:World,wp=wr:=⟨_,rfl⟩
    obtain⟨k,rfl,hk,hin,hbp⟩:=hrel
    have k1:(0:Int)<=(k:Int):=by omega
    have hzp:=hbp.o.size
    by_cases hkl:k<xs.length
    ·have k2:(k:Int)<(xs.length:Int):=by omega
     obtain⟨bA,oA,rfl,hbA,cl⟩:=(Hrow2.o.below hbp.o).at_ hkl
     rw[List.getElem_map]at cl
     have Hts:=Aa (Ch xs k hkl)
     have Hmem:=Aa (List.getElem_mem hkl)
     generalize xs[k]=x at cl Hts Hmem
     unfold PT.ptr at cl
     have Hxt:=Aa (Htok.o x Hmem.o)
     obtain⟨hyb,_,y0,y1,y2,y3,A7,c7,hyf,hl8,hrow7⟩:=(HSC.o.tys x Hmem.o).below hbp.o
     rw[hyf]at y2
     have Hrow7:=Aa hrow7
     clear hrow7 hyf y1 y3
     go_wp2_with fail
     go_loopw [93] (fun i wr=>∃j:Nat,i=.int .i64 j/\j<=x.ty.fields.length/\Hid (x.ty.sort≠69->∀f∈x.ty.fields.take j,Bx (Ae xs) f.kind)/\Hid (Below wp.heap.size wp wr)) (fun i _=>x.ty.fields.length - (intOf i).toNat)
     case atStart=>exact⟨0,rfl,Nat.zero_le _,by intro _ f hf;simp at hf,Aq _ _⟩
     case round=>
      obtain⟨j,rfl,hj,hin2,hbq⟩:=hrel
      have j1:(0:Int)<=(j:Int):=by omega
      have hzq:=hbq.o.size
      have x0:=(hbq.o.cell (p:=⟨x.blk,0,none⟩) hyb).trans y0
      have hxw:x.blk<wr.heap.size:=by omega
      have hxn:¬(x.blk=wr.heap.size):=by omega
      have Hbw:=Aa (show Below w.heap.size w wr from(hbr.o.trans (hbp.o.mono (by omega))).trans (hbq.o.mono (by omega)))
      have Hbo2:=Aa (show Below wo.heap.size wo wr from hbp.o.trans (hbq.o.mono hzp))
      by_cases hjl:j<x.ty.fields.length
      ·have j2:(j:Int)<(x.ty.fields.length:Int):=by omega
       obtain⟨b8,o8,rfl,hb8,hrg⟩:=Pv.range (Hrow7.o.below hbq.o) hjl
       have Hts2:=Aa (Ch x.ty.fields j hjl)
       have Hfm:=Aa (List.getElem_mem hjl)
       have Hrg:=Aa (show wr.rangeAt b8 (o8+j*6) [.int .i64 (x.ty.fields[j].tag:Int),.string ⟨x.ty.fields[j].name.toArray⟩,.string ⟨x.ty.fields[j].kind.signs.toArray⟩,.string ⟨x.ty.fields[j].kind.base.toArray⟩,.string ⟨x.ty.fields[j].kind.name.toArray⟩,.string ⟨x.ty.fields[j].given.toArray⟩]from hrg)
       clear hrg
       generalize x.ty.fields[j]=f at Hts2 Hfm Hrg
       by_cases h69:x.ty.sort=69
       ·have t69:((x.ty.sort.toNat:Int) != 69)=false:=Mh (d:=69) h69
        have Hin2:=Aa (show x.ty.sort≠69->∀f∈x.ty.fields.take (j+1),Bx (Ae xs) f.kind from fun h=>absurd h69 h)
        clear h69
        go_wp2_with ((with_reducible refine wpList_load_mid (op:=⟨_,.load 124 _,_,_,_,none⟩) rfl 124 _ rfl b8 (o8+j*6) ?_ _ _ Hrg.o underlying124 ?_ ?_ ?_);rfl;rfl;kernel_rfl)
        go_roundw
        case rel=>exact⟨j+1,by go_num,by omega,Hin2.o,hbq.o.alloc hzq _⟩
        case measure=>simp[intOf];omega
       have t69:((x.ty.sort.toNat:Int) != 69)=true:=Pe (d:=69) h69
       have Hkd:=Aa ((Hxt.o.2.2.1.1 f Hfm.o).2.2.2.2 h69).1
       have Hhas:=Aa (fun W (h:Below wo.heap.size wo W)=>Qbh _ xs f.kind W (HSC.o.below h).map (Nat.le_trans (H8 Hkd.o) (by decide)))
       unfold D2 at Hhas
       by_cases hrf:Bx (Ae xs) f.kind
       ·have Hin2:=Aa (show x.ty.sort≠69->∀f∈x.ty.fields.take (j+1),Bx (Ae xs) f.kind from fun h g hg=>by
         rw[Hts2.o]at hg
         rcases List.mem_append.1 hg with hg|hg
         ·exact hin2.o h g hg
         simp at hg;subst hg;exact hrf)
        rw[decide_eq_true hrf]at Hhas
        clear h69 hrf
        go_wp2_with ((with_reducible refine wpList_load_mid (op:=⟨_,.load 124 _,_,_,_,none⟩) rfl 124 _ rfl b8 (o8+j*6) ?_ _ _ Hrg.o underlying124 ?_ ?_ ?_);rfl;rfl;kernel_rfl)
        refine(Hhas.o _ (Hbo2.o.alloc (by omega) _)).mono ?_
        rintro e w9 ⟨rfl,hb9⟩
        have Hb9:=Aa (show Below wp.heap.size wp w9 from(hbq.o.alloc hzq _).trans (hb9.mono (by simp;omega)))
        clear hb9
        go_wp2_with fail
        go_roundw
        case rel=>exact⟨j+1,by go_num,by omega,Hin2.o,Hb9.o⟩
        case measure=>simp[intOf];omega
       have Hend:=Aa (show Cl s=none by
        rw[HF2.o,if_neg]
        rintro⟨h,_⟩
        exact hrf (h x.ty (List.mem_map_of_mem (f:=(·.ty)) Hmem.o) h69 f Hfm.o))
       rw[decide_eq_false hrf]at Hhas
       clear h69 hrf
       go_wp2_with ((with_reducible refine wpList_load_mid (op:=⟨_,.load 124 _,_,_,_,none⟩) rfl 124 _ rfl b8 (o8+j*6) ?_ _ _ Hrg.o underlying124 ?_ ?_ ?_);rfl;rfl;kernel_rfl)
       refine(Hhas.o _ (Hbo2.o.alloc (by omega) _)).mono ?_
       rintro e w9 ⟨rfl,hb9⟩
       have Hb9:=Aa (show Below w.heap.size w w9 from(Hbw.o.alloc Hbw.o.size _).trans (hb9.mono (by simp;omega)))
       clear hb9
       go_wp2_with fail
       go_ret2
       exact Gq.no Hend.o rfl Hb9.o
      ·have j2:¬(j:Int)<(x.ty.fields.length:Int):=by omega
       have Hin3:=Aa (show ∀y∈xs.take (k+1),y.ty.sort≠69->∀f∈y.ty.fields,Bx (Ae xs) f.kind from fun y hy=>by
        rw[Hts.o]at hy
        rcases List.mem_append.1 hy with hy|hy
        ·exact hin.o y hy
        simp at hy;subst hy
        intro h f hf
        exact hin2.o h f (by rw[List.take_of_length_le (by omega)];exact hf))
       go_wp2_with fail
       go_roundw
       case rel=>exact⟨k+1,by go_num,by omega,Hin3.o,Hbo2.o⟩
       case measure=>simp[intOf];omega
    ·have k2:¬(k:Int)<(xs.length:Int):=by omega
     have Hkinds:=Aa (show Fw (Ae xs)from fun t ht h f hf=>by
      obtain⟨x,hx,rfl⟩:=List.mem_map.1 ht
      exact hin.o x (by rw[List.take_of_length_le (by omega)];exact hx) h f hf)
     have s9:=(hbp.o.cell (p:=⟨w.heap.size+1,0,none⟩) (show w.heap.size+1<wo.heap.size by omega)).trans S0.o
     have HSP:=Aa (HSC.o.below hbp.o)
     have HrowP:=Aa (Hrow2.o.below hbp.o)
     have HbP:=Aa (show Below w.heap.size w wp from hbr.o.trans (hbp.o.mono (by omega)))
     go_wp2_with fail
     clear s9
     go_loopw [116] (fun i wr=>∃m:Nat,i=.int .i64 m/\m<=xs.length/\Hid (∀x∈xs.take m,Bv (Ae xs) 9 x.ty=true)/\Hid (Below wp.heap.size wp wr)) (fun i _=>xs.length - (intOf i).toNat)
     case atStart=>exact⟨0,rfl,Nat.zero_le _,by intro x hx;simp at hx,Aq _ _⟩
     case round=>
      obtain⟨m,rfl,hm,hin4,hbm⟩:=hrel
      have m1:(0:Int)<=(m:Int):=by omega
      have HbM:=Aa (show Below w.heap.size w wr from HbP.o.trans (hbm.o.mono HbP.o.size))
      by_cases hml:m<xs.length
      ·have m2:(m:Int)<(xs.length:Int):=by omega
       obtain⟨bA,oA,rfl,hbA,cl⟩:=(HrowP.o.below hbm.o).at_ hml
       rw[List.getElem_map]at cl
       have Hts:=Aa (Ch xs m hml)
       have Hmem:=Aa (List.getElem_mem hml)
       generalize xs[m]=x at cl Hts Hmem
       have Hends:=Aa (Qdv _ xs x wr (HSP.o.below hbm.o).map (HSP.o.below hbm.o).tys Htok.o Hkinds.o Hmem.o)
       unfold PT.ptr at cl Hends
       cases hee:Bv (Ae xs) 9 x.ty with
       |true=>
        rw[hee]at Hends
        have Hin5:=Aa (show ∀y∈xs.take (m+1),Bv (Ae xs) 9 y.ty=true from fun y hy=>by
         rw[Hts.o]at hy
         rcases List.mem_append.1 hy with hy|hy
         ·exact hin4.o y hy
         simp at hy;subst hy;exact hee)
        clear hee
        go_wp2_with fail
        refine Hends.o.mono ?_
        rintro e w9 ⟨rfl,hb9⟩
        have Hb9:=Aa (hbm.o.trans (hb9.mono hbm.o.size))
        clear hb9
        go_wp2_with fail
        go_roundw
        case rel=>exact⟨m+1,by go_num,by omega,Hin5.o,Hb9.o⟩
        case measure=>simp[intOf];omega
       |false=>
        rw[hee]at Hends
        have Hend:=Aa (show Cl s=none by
         rw[HF2.o,if_neg]
         rintro⟨_,h⟩
         have:=h x.ty (List.mem_map_of_mem (f:=(·.ty)) Hmem.o)
         rw[hee]at this;cases this)
        clear hee
        go_wp2_with fail
        refine Hends.o.mono ?_
        rintro e w9 ⟨rfl,hb9⟩
        have Hb9:=Aa (HbM.o.trans (hb9.mono HbM.o.size))
        clear hb9
        go_wp2_with fail
        go_ret2
        exact Gq.no Hend.o rfl Hb9.o
      ·have m2:¬(m:Int)<(xs.length:Int):=by omega
       have Hfin:=Aa (show Cl s=some (Ae xs)by
        rw[HF2.o,if_pos]
        refine⟨Hkinds.o,fun t ht=>?_⟩
        obtain⟨x,hx,rfl⟩:=List.mem_map.1 ht
        exact hin4.o x (by rw[List.take_of_length_le (by omega)];exact hx))
       go_wp2_with fail
       go_ret2
       exact Gq.yes Hfin.o rfl ((HSL.o.below hbp.o).below hbm.o) HbM.o
  ·have hu1:u.isEmpty=false:=by simpa using hu
   have hu2:(!u.isEmpty)=true:=by simpa using hu
   have hu3:(u == [])=false:=by simpa using hu
   have hu4:(u != [])=true:=by simpa using hu
   have Hlin:=Aa (show Fe (s.length+1) s []=(if (Qde 10 u).2.2=false\/(Ae xs).length=8 then none else match Ee (Qde 10 u).1 with
    |none=>none
    |some t=>if (Ae xs).any (fun v=>decide (v.name=t.name))=true then none else Fe fuel (Qde 10 u).2.1 (Ae xs++[t]))by rw[hlin.o,Fe,if_neg hu];rfl)
   have Hcut:=Aa (fun W=>Re u 10 W (by omega))
   have hcl:=Kp 10 u
   have hsh:(Qde 10 u).2.2=true->(Qde 10 u).2.1.length<u.length:=fun h=>by
    rcases Ev 10 u with⟨_,e⟩|⟨p,t,e1,_,e⟩
    ·rw[e]at h;cases h
    rw[e];show t.length<u.length;rw[e1];simp;omega
   have Hsh:=Aa hsh
   generalize Qde 10 u=q at *
   obtain⟨ln,rest,told⟩:=q
   simp only at hcl Hlin Hsh
   have hcl1:=hcl.1
   have hcl2:=hcl.2
   clear hcl hu hlin hsh
   go_wp2_with fail
   refine(Hcut.o _).mono ?_
   rintro e w1 ⟨rfl,k1,rfl⟩
   unfold Zz
   cases told with
   |false=>
    have Hend:=Aa (show Cl s=none by rw[HF.o,Hlin.o];simp)
    go_wp2_with fail
    go_ret2
    exact Gq.no Hend.o rfl (below_drewN hbr.o _)
   |true=>
    have hrl:=Hsh.o (by simp)
    rcases Nat.eq_or_lt_of_le hx8 with h8|h8
    ·have q1:((xs.length:Int) == 8)=true:=by simp[h8]
     have Hend:=Aa (show Cl s=none by rw[HF.o,Hlin.o];simp[Ae,h8])
     clear h8
     go_wp2_with fail
     go_ret2
     exact Gq.no Hend.o rfl (below_drewN hbr.o _)
    have q1:((xs.length:Int) == 8)=false:=by rw[beq_eq_false_iff_ne];omega
    have Hlin2:=Aa (show Fe (s.length+1) s []=(match Ee ln with
     |none=>none
     |some t=>if (Ae xs).any (fun v=>decide (v.name=t.name))=true then none else Fe fuel rest (Ae xs++[t]))by rw[Hlin.o,if_neg (by simp[Ae];omega)])
    have Htype:=Aa (fun W=>Zc ln W (by omega))
    have Htok:=Aa (fun t (h:Ee ln=some t)=>(Ew.1 h).1)
    clear Hlin
    generalize Ee ln=ot at Hlin2 Htype Htok
    go_wp2_with fail
    refine(Htype.o _).mono ?_
    rintro e w2 ⟨hcase,hb2⟩
    have hbo:Below wo.heap.size wo w2:=(below_drewN (Aq _ _) k1).trans (by simpa using hb2)
    have Hbo:=Aa hbo
    cases ot with
    |none=>
     obtain⟨pp,rfl⟩:=hcase
     have Hend:=Aa (show Cl s=none by rw[HF.o,Hlin2.o])
     go_wp2_with fail
     refine Bi [45,46,47,48,49,50,51,52,53,54,55,56,57,58] (by kernel_rfl) (by kernel_rfl) (by kernel_rfl) (fun u=>by dsimp only[Qbm,Bm,List.set,Nat.zero_add,Nat.reduceAdd])
      (fun i v W=>match i with|0=>v=.bool false|1=>v=.bool true|2=>v=.bool true|13=>v=.bool true|_=>True) (fun L U W=>∃q,W=(w2).drewN q) (fun _ _=>True) (fun _ _ _ _ _ h=>h) ⟨1,rfl⟩ ?_ ?_
     ·repeat (first|exact Ah.nil|(refine Ah.cons ?_ ?_;rotate_left))
      all_goals
       rintro L U W hL hpre ⟨q,rfl⟩ hun hdep K hK
       clear hun hdep
       first|(simp[Region.binds]at hpre;done)|simp[Region.binds]at hpre|clear hpre
       go_simp
       first|exact hK _ _ _ rfl Ac ⟨q,rfl⟩ rfl|exact hK _ _ _ rfl Ac ⟨q,rfl⟩ (by simp[Act.put,hpre])|exact hK undef _ _ Ac Ac ⟨q,rfl⟩ (by simp[Act.put,hpre])|exact hK _ _ _ Ac Ac ⟨q,rfl⟩ rfl|exact hK _ _ _ Ac Ac ⟨q,rfl⟩ (by simp[Act.put,hpre])
     rintro L U W hL hφ ⟨q,rfl⟩
     have e13:U 13=.bool true:=hφ 13 (by decide)
     simp only[e13]
     clear hφ hL
     go_wp2_with fail
     go_ret2
     exact Gq.no Hend.o rfl (below_drewN (hbr.o.trans (Hbo.o.mono (by omega))) _)
    |some t=>
     obtain⟨x,hxt,rfl,hxb,hxty,hxf⟩:=hcase
     subst hxt
     have hxb2:wo.heap.size<=x.blk:=by simpa using hxb
     have hxz:x.blk<w2.heap.size:=hxty.1
     have y1:w2.cell? ⟨x.blk,1,none⟩=some (.string ⟨x.ty.name.toArray⟩):=hxty.2.2.2.1
     have u0:=(hbo.cell (p:=⟨w.heap.size+1,0,none⟩) (show w.heap.size+1<wo.heap.size by omega)).trans s0
     have u1:=(hbo.cell (p:=⟨w.heap.size+1,1,none⟩) (show w.heap.size+1<wo.heap.size by omega)).trans s1
     have Hnm2:=Aa (Dd.below hnm.o hbo)
     have Hxty:=Aa hxty
     have Hxf:=Aa hxf
     have Htk:=Aa (Htok.o x.ty rfl)
     have hnl:x.ty.name.length<=3:=(Dk.1 Htk.o.2.1).2.1
     have hlook:∀q,(Instr.lookup 120 (.map (some w.heap.size)) (.string ⟨x.ty.name.toArray⟩) false).run prog (w2.drewN q)=.ok (Xh (Ef xs x.ty.name)) (w2.drewN q):=fun q=>Ey (Dd.below Hnm2.o (below_drewN (Aq _ _) q)) x.ty.name (by omega)
     have hz2:wo.heap.size<=w2.heap.size:=hbo.size
     clear hbo s0 s1 hxty hxf
     unfold PT.ptr
     cases hfp:Ef xs x.ty.name with
     |some z=>
      have Hend:=Aa (show Cl s=none by
       rw[HF.o,Hlin2.o]
       have:(Ae xs).any (fun v=>decide (v.name=x.ty.name))=true:=by
        cases hh:(Ae xs).any (fun v=>decide (v.name=x.ty.name))with
        |true=>rfl
        |false=>rw[Vp.2 hh]at hfp;cases hfp
       simp[this])
      rw[hfp]at hlook
      unfold Xh PT.ptr at hlook
      clear hfp
      go_wp2_with fail
      refine Bi [45,46,47,48,49,50,51,52,53,54,55,56,57,58] (by kernel_rfl) (by kernel_rfl) (by kernel_rfl) (fun u=>by dsimp only[Qbm,Bm,List.set,Nat.zero_add,Nat.reduceAdd])
       (fun i v W=>match i with|0=>v=.bool true|1=>v=.bool false|2=>v=.bool false|3=>v=.pointer (some ⟨w.heap.size+1,0,none⟩)|4=>v=.pointer (some ⟨w.heap.size+1,0,none⟩)|5=>v=.pointer (some ⟨w.heap.size+1,1,none⟩)|6=>v=.map (some w.heap.size)|7=>v=.pointer (some ⟨x.blk,0,none⟩)|8=>v=.pointer (some ⟨x.blk,0,none⟩)|9=>v=.pointer (some ⟨x.blk,1,none⟩)|10=>v=.string ⟨x.ty.name.toArray⟩|11=>v=.pointer (some ⟨z.blk,0,none⟩)|12=>v=.bool true|13=>v=.bool true|_=>True) (fun L U W=>∃q,W=(w2).drewN q) (fun _ _=>True) (fun _ _ _ _ _ h=>h) ⟨1,rfl⟩ ?_ ?_
      ·repeat (first|exact Ah.nil|(refine Ah.cons ?_ ?_;rotate_left))
       all_goals
        rintro L U W hL hpre ⟨q,rfl⟩ hun hdep K hK
        have hlq:=hlook q
        clear hun hdep
        first|(simp[Region.binds]at hpre;done)|simp[Region.binds]at hpre|clear hpre
        go_simp
        first|exact hK _ _ _ rfl Ac ⟨q,rfl⟩ rfl|exact hK _ _ _ rfl Ac ⟨q,rfl⟩ (by simp[Act.put,hpre])|exact hK undef _ _ Ac Ac ⟨q,rfl⟩ (by simp[Act.put,hpre])|exact hK _ _ _ Ac Ac ⟨q,rfl⟩ rfl|exact hK _ _ _ Ac Ac ⟨q,rfl⟩ (by simp[Act.put,hpre])
      rintro L U W hL hφ ⟨q,rfl⟩
      have e13:U 13=.bool true:=hφ 13 (by decide)
      simp only[e13]
      clear hφ hL
      go_wp2_with fail
      go_ret2
      exact Gq.no Hend.o rfl (below_drewN (hbr.o.trans (Hbo.o.mono (by omega))) _)
     |none=>
      have Hany:=Aa (Vp.1 hfp)
      have Hfp:=Aa hfp
      rw[hfp]at hlook
      unfold Xh at hlook
      clear hfp
      have Hlin3:=Aa (show Fe (s.length+1) s []=Fe fuel rest (Ae (xs++[x]))by
       rw[Hlin2.o]
       show (if _ then _ else _)=_
       rw[if_neg (by rw[Hany.o];decide)];simp[Ae])
      go_wp2_with fail
      refine Bi [45,46,47,48,49,50,51,52,53,54,55,56,57,58] (by kernel_rfl) (by kernel_rfl) (by kernel_rfl) (fun u=>by dsimp only[Qbm,Bm,List.set,Nat.zero_add,Nat.reduceAdd])
       (fun i v W=>match i with|0=>v=.bool true|1=>v=.bool false|2=>v=.bool false|3=>v=.pointer (some ⟨w.heap.size+1,0,none⟩)|4=>v=.pointer (some ⟨w.heap.size+1,0,none⟩)|5=>v=.pointer (some ⟨w.heap.size+1,1,none⟩)|6=>v=.map (some w.heap.size)|7=>v=.pointer (some ⟨x.blk,0,none⟩)|8=>v=.pointer (some ⟨x.blk,0,none⟩)|9=>v=.pointer (some ⟨x.blk,1,none⟩)|10=>v=.string ⟨x.ty.name.toArray⟩|11=>v=.pointer none|12=>v=.bool false|13=>v=.bool false|_=>True) (fun L U W=>∃q,W=(w2).drewN q) (fun _ _=>True) (fun _ _ _ _ _ h=>h) ⟨1,rfl⟩ ?_ ?_
      ·repeat (first|exact Ah.nil|(refine Ah.cons ?_ ?_;rotate_left))
       all_goals
        rintro L U W hL hpre ⟨q,rfl⟩ hun hdep K hK
        have hlq:=hlook q
        clear hun hdep
        first|(simp[Region.binds]at hpre;done)|simp[Region.binds]at hpre|clear hpre
        go_simp
        first|exact hK _ _ _ rfl Ac ⟨q,rfl⟩ rfl|exact hK _ _ _ rfl Ac ⟨q,rfl⟩ (by simp[Act.put,hpre])|exact hK undef _ _ Ac Ac ⟨q,rfl⟩ (by simp[Act.put,hpre])|exact hK _ _ _ Ac Ac ⟨q,rfl⟩ rfl|exact hK _ _ _ Ac Ac ⟨q,rfl⟩ (by simp[Act.put,hpre])
      rintro L U W hL hφ ⟨q,rfl⟩
      have e13:U 13=.bool false:=hφ 13 (by decide)
      simp only[e13]
      clear hφ hL
      obtain⟨w3,hw3⟩:∃w3,w3=w2.drewN q:=⟨_,rfl⟩
      rw[<-hw3]
      have hb3:Below wo.heap.size wo w3:=by rw[hw3];exact below_drewN Hbo.o _
      have hb23:Below w2.heap.size w2 w3:=by rw[hw3];exact below_drewN (Aq _ _) _
      have Hx3:=Aa (Hxty.o.below hb23)
      have hown3:=Cm hown.o hb3
      have hT3:=Aj hT.o (show w.heap.size+1<wo.heap.size by omega) hb3
      have hK3:=Al hK.o (show w.heap.size+1<wo.heap.size by omega) hb3
      have hz3:wo.heap.size<=w3.heap.size:=hb3.size
      have v0:w3.cell? ⟨w.heap.size+1,0,none⟩=some (.slice A xs.length cA):=by simpa using Ab hT3 0 rfl
      have Hb3:=Aa hb3
      have Hown3:=Aa hown3
      have HT3:=Aa hT3
      have HK3:=Aa hK3
      have Hnm3:=Aa (Dd.below Hnm2.o hb23)
      have Hb23:=Aa hb23
      clear hlook hb3 hown3 hT3 hK3 hw3 hb23 u0 u1 y1
      go_wp2_with (at_builtin;refine Gw _ rfl _ _ 119 rfl (w.heap.size+2) 118 (.pointer none) 8 underlying119 Tryz.infoPt rfl w3 (.pointer (some ⟨x.blk,0,none⟩)) rfl rfl (.slice A xs.length cA) xs.length (xs.map (·.ptr)) rfl rfl Hown3.o (by unfold maxLen;omega) (by omega) (by omega) ?_;intro v5 w5 hown5 hg5 hwh;have hb5:Below (w.heap.size+2) w3 w5:=(Aq _ _).grown hg5 (by omega) (fun k hk=>(Hown3.o.lt k hk).1);have HT5:=Aa (Aj HT3.o (show w.heap.size+1<w.heap.size+2 by omega) hb5);have HK5:=Aa (Al HK3.o (show w.heap.size+1<w.heap.size+2 by omega) hb5);have Hnm5:=Aa (Dd.belowAt Hnm3.o (show w.heap.size<w.heap.size+2 by omega) hb5);have Hty5:=Aa (Tw.push hty.o Hb3.o hown.o Hx3.o hxb2 (fun k hk=>(by have:=Hxf.o k hk;simpa using this)) (by omega) hg5 hwh);obtain⟨A5,n5,c5,e5⟩:=J6 hown5;subst e5;have Hown5:=Aa hown5;have Hb5:=Aa hb5;have p0:w5.cell? ⟨w.heap.size+1,0,none⟩=some (.slice A xs.length cA):=(by simpa using Ab HT5.o 0 rfl);have f0:w5.frozen? ⟨w.heap.size+1,0,none⟩=false:=(by simpa using(HK5.o 0 (by decide)).2);have hz5:w3.heap.size<=w5.heap.size:=hg5.size;clear hown5 hg5 hwh hb5 v0)
      obtain⟨w6,hw6⟩:∃w6,w6=w5.setCell ⟨w.heap.size+1,0,none⟩ (.slice A5 n5 c5):=⟨_,rfl⟩
      rw[<-hw6]
      have hg6:w5.grownBy w6 (some (w.heap.size+1)):=by rw[hw6];exact Ps _ _ _
      have hT6:w6.rangeAt (w.heap.size+1) 0 [.slice A5 n5 c5,.map (some w.heap.size)]:=by rw[hw6];exact C7 [] [.slice A xs.length cA] [.map (some w.heap.size)] [.slice A5 n5 c5] HT5.o rfl
      have hK6:w6.there (w.heap.size+1) 0 2:=by rw[hw6];exact World.there_setCells HK5.o (w.heap.size+1) 0 [.slice A5 n5 c5]
      have Hown6:=Aa (Hown5.o.kept hg6 (.inr (fun e=>by have:=(Hown5.o.lt _ e).1;omega)))
      have Hnm6:=Aa (Dd.kept Hnm5.o hg6 (by simp))
      have Hty6:=Aa (Hty5.o.far hg6 (by omega))
      have Hb6:=Aa (show Below w.heap.size w w6 from((hbr.o.trans (Hb3.o.mono (by omega))).trans (Hb5.o.mono (by omega))).trans (by rw[hw6];exact(Aq _ _).setCell (by simp) _))
      have hz6:w.heap.size+2<=w6.heap.size:=Nat.le_trans (by omega) hg6.size
      have m1:w6.cell? ⟨w.heap.size+1,1,none⟩=some (.map (some w.heap.size)):=by simpa using Ab hT6 1 rfl
      have n1:w6.cell? ⟨x.blk,1,none⟩=some (.string ⟨x.ty.name.toArray⟩):=(Hty6.o.1 x (by simp)).1.2.2.2.1
      have HT6:=Aa hT6
      have HK6:=Aa hK6
      clear hw6 hg6 hT6 hK6 p0 f0
      refine Bi [69,70,71,72,73,74,75,76,77,999] (by kernel_rfl) (by kernel_rfl) (by kernel_rfl) (fun u=>by dsimp only[Qbm,Bm,List.set,Nat.zero_add,Nat.reduceAdd])
       (fun i v W=>match i with|0=>v=.pointer (some ⟨w.heap.size+1,0,none⟩)|1=>v=.pointer (some ⟨w.heap.size+1,0,none⟩)|2=>v=.pointer (some ⟨w.heap.size+1,1,none⟩)|3=>v=.map (some w.heap.size)|4=>v=.pointer (some ⟨x.blk,0,none⟩)|5=>v=.pointer (some ⟨x.blk,0,none⟩)|6=>v=.pointer (some ⟨x.blk,1,none⟩)|7=>v=.string ⟨x.ty.name.toArray⟩|8=>v=.pointer (some ⟨x.blk,0,none⟩)|_=>True) (fun L U W=>∃q,(L 9=false->W=w6.drewN q)/\(L 9=true->(w6.drewN q).grownBy W (some w.heap.size)/\Pd W w.heap.size (xs++[x]))) (fun _ _=>True) (fun _ _ _ _ _ h=>h) ⟨1,fun _=>rfl,by simp⟩ ?_ ?_
      ·repeat (first|exact Ah.nil|(refine Ah.cons ?_ ?_;rotate_left))
       all_goals
        rintro L U W hL hpre ⟨q,hq1,hq2⟩ hun hdep K hK
        have Hdep:=Aa hdep
        have Hq2:=Aa hq2
        clear hun hdep hq2
        first|(simp[Region.binds]at hpre;done)|simp[Region.binds]at hpre|clear hpre
       ·obtain rfl:=hq1 (Ax Hdep.o 9 3 rfl (Ax Hdep.o 3 2 rfl (Ax Hdep.o 2 1 rfl (Ax Hdep.o 1 0 rfl hL))))
        go_simp
        first|exact hK _ _ _ rfl Ac ⟨q,fun _=>rfl,Hq2.o⟩ rfl|exact hK _ _ _ rfl Ac ⟨q,fun _=>rfl,Hq2.o⟩ (by simp[Act.put,hpre])
       ·obtain rfl:=hq1 (Ax Hdep.o 9 3 rfl (Ax Hdep.o 3 2 rfl (Ax Hdep.o 2 1 rfl hL)))
        go_simp
        first|exact hK _ _ _ rfl Ac ⟨q,fun _=>rfl,Hq2.o⟩ rfl|exact hK _ _ _ rfl Ac ⟨q,fun _=>rfl,Hq2.o⟩ (by simp[Act.put,hpre])
       ·obtain rfl:=hq1 (Ax Hdep.o 9 3 rfl (Ax Hdep.o 3 2 rfl hL))
        go_simp
        first|exact hK _ _ _ rfl Ac ⟨q,fun _=>rfl,Hq2.o⟩ rfl|exact hK _ _ _ rfl Ac ⟨q,fun _=>rfl,Hq2.o⟩ (by simp[Act.put,hpre])
       ·obtain rfl:=hq1 (Ax Hdep.o 9 3 rfl hL)
        go_simp
        first|exact hK _ _ _ rfl Ac ⟨q,fun _=>rfl,Hq2.o⟩ rfl|exact hK _ _ _ rfl Ac ⟨q,fun _=>rfl,Hq2.o⟩ (by simp[Act.put,hpre])
       ·obtain rfl:=hq1 (Ax Hdep.o 9 7 rfl (Ax Hdep.o 7 6 rfl (Ax Hdep.o 6 5 rfl (Ax Hdep.o 5 4 rfl hL))))
        go_simp
        first|exact hK _ _ _ rfl Ac ⟨q,fun _=>rfl,Hq2.o⟩ rfl|exact hK _ _ _ rfl Ac ⟨q,fun _=>rfl,Hq2.o⟩ (by simp[Act.put,hpre])
       ·obtain rfl:=hq1 (Ax Hdep.o 9 7 rfl (Ax Hdep.o 7 6 rfl (Ax Hdep.o 6 5 rfl hL)))
        go_simp
        first|exact hK _ _ _ rfl Ac ⟨q,fun _=>rfl,Hq2.o⟩ rfl|exact hK _ _ _ rfl Ac ⟨q,fun _=>rfl,Hq2.o⟩ (by simp[Act.put,hpre])
       ·obtain rfl:=hq1 (Ax Hdep.o 9 7 rfl (Ax Hdep.o 7 6 rfl hL))
        go_simp
        first|exact hK _ _ _ rfl Ac ⟨q,fun _=>rfl,Hq2.o⟩ rfl|exact hK _ _ _ rfl Ac ⟨q,fun _=>rfl,Hq2.o⟩ (by simp[Act.put,hpre])
       ·obtain rfl:=hq1 (Ax Hdep.o 9 7 rfl hL)
        go_simp
        first|exact hK _ _ _ rfl Ac ⟨q,fun _=>rfl,Hq2.o⟩ rfl|exact hK _ _ _ rfl Ac ⟨q,fun _=>rfl,Hq2.o⟩ (by simp[Act.put,hpre])
       ·obtain rfl:=hq1 (Ax Hdep.o 9 8 rfl hL)
        go_simp
        first|exact hK _ _ _ rfl Ac ⟨q,fun _=>rfl,Hq2.o⟩ rfl|exact hK _ _ _ rfl Ac ⟨q,fun _=>rfl,Hq2.o⟩ (by simp[Act.put,hpre])
       ·obtain rfl:=hq1 hL
        obtain⟨w7,hrun,r1,r2⟩:=Dd.store (Dd.below Hnm6.o (below_drewN (Aq _ _) q)) Tryz.keyStr underlying120 (by unfold maxLen;omega) (.pointer (some ⟨x.blk,0,none⟩)) (Qc6 (n:=x.ty.name) (by omega))
        have hn7:Pd w7 w.heap.size (xs++[x]):=by
         unfold Pd
         rw[List.length_append]
         exact r1.of_eq (fun l hl=>Qaw Hfp.o l hl)
        have R2:=Aa r2
        have Hn7:=Aa hn7
        clear r1 r2 hn7
        go_simp
        exact hK undef _ _ Ac Ac ⟨q,fun h=>by simp at h,fun _=>⟨R2.o,Hn7.o⟩⟩ (by simp[Act.put,hpre])
      rintro L U W hL hφ ⟨q,_,hq2⟩
      obtain⟨hg7,hn7⟩:=hq2 (hL 9 (by decide))
      have hzq:w6.heap.size<=W.heap.size:=by have:=hg7.size;simpa using this
      have hb7:Below w.heap.size w W:=(below_drewN Hb6.o q).grown hg7 (by simp;omega) (fun k hk=>by injection hk with hk;omega)
      have HT7:=Aa (Gi (Aj HT6.o (show w.heap.size+1<w6.heap.size by omega) (below_drewN (Aq _ _) q)) hg7 (by simp))
      have HK7:=Aa (Gt (Al HK6.o (show w.heap.size+1<w6.heap.size by omega) (below_drewN (Aq _ _) q)) hg7 (by simp;omega) (by simp))
      have Hown7:=Aa ((Cm Hown6.o (below_drewN (Aq _ _) q)).kept hg7 (.inr (fun e=>by have:=(Hown6.o.lt _ e).1;omega)))
      have Hty7:=Aa ((Hty6.o.below (below_drewN (Aq _ _) q)).far hg7 (by omega))
      have Hn7:=Aa hn7
      have Hb7:=Aa hb7
      clear hL hφ hq2 hg7 hn7 hb7 m1 n1
      go_wp2_with fail
      go_roundw
      case rel=>exact⟨rest,fuel,xs++[x],.slice A5 n5 c5,rfl,by omega,by omega,Hlin3.o,by simp;omega,HT7.o,HK7.o,by rw[List.length_append,List.map_append];exact Hown7.o,Hn7.o,Hty7.o,Hb7.o,by omega⟩
      case measure=>rw[Kc,Kc];omega
theorem Tu(s:List UInt8)(w:World)(hs:s.length<=4000000):
  Calls prog 72 #[.string ⟨s.toArray⟩] w (Gq (Cl s) w):=by
 by_cases h:400<s.length
 ·exact Y7 s w hs h
 exact Qb2 s w (by omega)
theorem Es(b:Nat):∀(vs:List Value) (o:Nat) (w:World),w.grownBy (w.setCells b o vs) (some b)
 |[],_,w=>World.grownBy.refl _ _
 |v::r,o,w=>(Ps w ⟨b,o,none⟩ v).trans (Es b r (o+1) _)
def Nf(o:Option (List Ty × Kd))(w:World)(e:Ending)(w':World):Prop:=
 (match o with
  |some x=>∃p xs,Ae xs=x.1/\e=.returned (.tuple #[p,D2 x.2,.bool true])/\Qt w.heap.size w' p xs
  |none=>∃(p:Option Addr) (a b c:ByteArray),e=.returned (.tuple #[.pointer p,.agg #[.string a,.string b,.string c],.bool false]))/\Below w.heap.size w w'
theorem Nf.no{w w':World}{e:Ending}{o:Option (List Ty × Kd)}(ho:o=none){p:Option Addr}{a b c:ByteArray}(he:e=.returned (.tuple #[.pointer p,.agg #[.string a,.string b,.string c],.bool false]))(hb:Below w.heap.size w w'):Nf o w e w':=by
 rw[ho];exact⟨⟨p,a,b,c,he⟩,hb⟩
theorem Xt(s d:List UInt8)(w:World)(hs:s.length<=4000000)(hd:d.length<=4000000):
  Calls prog 48 #[.string ⟨s.toArray⟩,.string ⟨d.toArray⟩] w (Nf (Bn s d) w):=by
 have Hrs:=Aa (fun W=>Tu s W hs)
 have Hrk:=Aa (fun W=>Q7 d W hd)
 have HF:=Aa (show Bn s d=(match Cl s with|none=>none|some S=>match Co d with|none=>none|some k=>if Bx S k then some (S,k)else none)from rfl)
 have Hkok:=Aa (fun k (h:Co d=some k)=>(Em.1 h).1)
 generalize Cl s=oS at HF Hrs
 generalize Co d=oK at HF Hrk Hkok
 go_enter func48,ntmps48
 go_wp2_with fail
 refine(Hrs.o _).mono ?_
 rintro e w1 ⟨hcase,hb1⟩
 have hz1:w.heap.size<w1.heap.size:=by have:=hb1.size;simp at this;omega
 have HT1:=Aa (show w1.there w.heap.size 0 3 from Al (Cc w [.string ⟨#[]⟩,.string ⟨#[]⟩,.string ⟨#[]⟩] 62) (by simp) hb1)
 have Hb1:=Aa (show Below w.heap.size w w1 from((Aq _ _).alloc (Ap _) _).trans (hb1.mono (by simp)))
 clear hb1
 cases oS with
 |none=>
  obtain⟨p,rfl⟩:=hcase
  go_wp2_with ((with_reducible refine Ad (op:=⟨none,.store 62 _ _,_,_,_,none⟩) rfl 62 _ _ rfl w.heap.size 0 [.string ⟨#[]⟩,.string ⟨#[]⟩,.string ⟨#[]⟩] ?_ ?_ ?_ ?_ ?_ ?_);rfl;rfl;(exact HT1.o);kernel_rfl;(simp[Value.oneCell']);intro w9 HS9)
  have HZ:=Aa (show w9.rangeAt w.heap.size 0 [.string ⟨#[]⟩,.string ⟨#[]⟩,.string ⟨#[]⟩]from by rw[HS9.o];exact World.rangeAt_setCells_same _ _ _ _ HT1.o)
  refine bodyPost_ret (v:=.tuple #[.pointer none,.agg ([.string ⟨#[]⟩,.string ⟨#[]⟩,.string ⟨#[]⟩]:List Value).toArray,.bool false]) ?_ rfl ?_
  ·exact Fp results48 _ _ w.heap.size [.string ⟨#[]⟩,.string ⟨#[]⟩,.string ⟨#[]⟩] _ _ _ rfl rfl rfl HZ.o underlying62 rfl (by kernel_rfl)
  exact Nf.no HF.o rfl (by rw[HS9.o];exact Ag _ (Ap _) _ _ _ Hb1.o)
 |some S=>
  obtain⟨p,xs,hxs,rfl,hsl⟩:=hcase
  subst hxs
  have Hsl:=Aa (show Qt (w.heap.size+1) w1 p xs from by simpa using hsl)
  obtain⟨pb,_,_,_,hp,_⟩:=hsl
  subst hp
  go_wp2_with fail
  refine(Hrk.o _).mono ?_
  rintro e w2 ⟨hcase,hb2⟩
  cases oK with
  |none=>
   obtain⟨a1,a2,a3,rfl⟩:=hcase
   have hz4:w2.heap.size<(w2.alloc (.cells #[.string a1,.string a2,.string a3] 62)).heap.size:=by simp
   have hz2:w.heap.size<w2.heap.size:=by have:=hb2.size;omega
   have HT4:=Aa (show (w2.alloc (.cells #[.string a1,.string a2,.string a3] 62)).there w.heap.size 0 3 from World.there_alloc (Al HT1.o hz1 hb2) _)
   have HX4:=Aa (show (w2.alloc (.cells #[.string a1,.string a2,.string a3] 62)).rangeAt w2.heap.size 0 [.string a1,.string a2,.string a3]from Bw w2 [.string a1,.string a2,.string a3] _)
   have Hsl4:=Aa (show Qt (w.heap.size+1) (w2.alloc (.cells #[.string a1,.string a2,.string a3] 62)) (.pointer (some ⟨pb,0,none⟩)) xs from(Hsl.o.below hb2).below ((Aq _ _).alloc (Ap _) _))
   have Hb4:=Aa (show Below w.heap.size w (w2.alloc (.cells #[.string a1,.string a2,.string a3] 62))from(Hb1.o.trans (hb2.mono Hb1.o.size)).alloc (by omega) _)
   clear hb2
   go_wp2_with fail
   refine Bi [23,24,25,26,27,28,29,30,4,999,6] (by kernel_rfl) (by kernel_rfl) (by kernel_rfl) (fun u=>by dsimp only[Qbm,Bm,List.set,Nat.zero_add,Nat.reduceAdd])
    (fun i v W=>match i with|0=>v=.pointer (some ⟨pb,0,none⟩)|1=>v=.agg ([.string a1,.string a2,.string a3]:List Value).toArray|2=>v=.bool false|3=>v=.bool false|7=>v=.bool false|8=>v=.pointer (some ⟨pb,0,none⟩)|10=>v=.bool false|_=>True) (fun L U W=>Below w.heap.size w W/\w2.heap.size<W.heap.size/\W.there w.heap.size 0 3/\W.rangeAt w2.heap.size 0 [.string a1,.string a2,.string a3]/\Qt (w.heap.size+1) W (.pointer (some ⟨pb,0,none⟩)) xs/\(L 9=true->W.rangeAt w.heap.size 0 [.string a1,.string a2,.string a3])) (fun _ _=>True) (fun _ _ _ _ _ h=>h) ⟨Hb4.o.drew,by simp,by simpa using HT4.o,by simpa using HX4.o,Hsl4.o.below ((Aq _ _).drew),by simp⟩ ?_ ?_
   ·repeat (first|exact Ah.nil|(refine Ah.cons ?_ ?_;rotate_left))
    all_goals
     rintro L U W hL hpre hR hun hdep K hK
     have HR:=Aa hR
     obtain⟨_,_,_,hxr,_,_⟩:=hR
     have c0:W.cell? ⟨w2.heap.size,0,none⟩=some (.string a1):=by simpa using Ab hxr 0 rfl
     have c1:W.cell? ⟨w2.heap.size,1,none⟩=some (.string a2):=by simpa using Ab hxr 1 rfl
     have c2:W.cell? ⟨w2.heap.size,2,none⟩=some (.string a3):=by simpa using Ab hxr 2 rfl
     clear hun hdep hxr
     first|(simp[Region.binds]at hpre;done)|simp[Region.binds]at hpre|clear hpre
    ·go_simp
     first|exact hK _ _ _ rfl Ac HR.o (by first|rfl|simp[Act.put,hpre])|exact hK undef _ _ Ac Ac HR.o (by simp[Act.put,hpre])
    ·go_simp
     first|exact hK _ _ _ rfl Ac HR.o (by first|rfl|simp[Act.put,hpre])|exact hK undef _ _ Ac Ac HR.o (by simp[Act.put,hpre])
    ·go_simp
     first|exact hK _ _ _ rfl Ac HR.o (by first|rfl|simp[Act.put,hpre])|exact hK undef _ _ Ac Ac HR.o (by simp[Act.put,hpre])
    ·go_simp
     first|exact hK _ _ _ rfl Ac HR.o (by first|rfl|simp[Act.put,hpre])|exact hK undef _ _ Ac Ac HR.o (by simp[Act.put,hpre])
    ·go_simp
     first|exact hK _ _ _ rfl Ac HR.o (by first|rfl|simp[Act.put,hpre])|exact hK undef _ _ Ac Ac HR.o (by simp[Act.put,hpre])
    ·go_simp
     first|exact hK _ _ _ rfl Ac HR.o (by first|rfl|simp[Act.put,hpre])|exact hK undef _ _ Ac Ac HR.o (by simp[Act.put,hpre])
    ·go_simp
     first|exact hK _ _ _ rfl Ac HR.o (by first|rfl|simp[Act.put,hpre])|exact hK undef _ _ Ac Ac HR.o (by simp[Act.put,hpre])
    ·go_simp
     first|exact hK _ _ _ rfl Ac HR.o (by first|rfl|simp[Act.put,hpre])|exact hK undef _ _ Ac Ac HR.o (by simp[Act.put,hpre])
    ·go_simp
     first|exact hK _ _ _ rfl Ac HR.o (by first|rfl|simp[Act.put,hpre])|exact hK undef _ _ Ac Ac HR.o (by simp[Act.put,hpre])
    ·obtain⟨r1,r2,r3,r4,r5,r6⟩:=HR.o
     rw[if_pos (by rfl)]
     refine wp_store_mid 62 _ _ rfl w.heap.size 0 ([.string a1,.string a2,.string a3]:List Value).toArray rfl hpre.1.2 r3 (by kernel_rfl) (by simp[Value.oneCell']) ?_
     exact hK undef _ _ Ac Ac ⟨Ag _ (Ap _) _ _ _ r1,by rw[B6];exact r2,World.there_setCells r3 _ _ _,World.rangeAt_setCells_apart r4 _ _ _ (.inl (show w2.heap.size≠w.heap.size by omega)),r5.far (Es _ _ _ W) (by omega),fun _=>World.rangeAt_setCells_same _ _ _ _ r3⟩ rfl
    ·go_simp
     first|exact hK _ _ _ rfl Ac HR.o (by first|rfl|simp[Act.put,hpre])|exact hK undef _ _ Ac Ac HR.o (by simp[Act.put,hpre])
   rintro L U W hL hφ ⟨r1,r2,r3,r4,r5,r6⟩
   have e8:U 8=.pointer (some ⟨pb,0,none⟩):=hφ 8 (by decide)
   have e10:U 10=.bool false:=hφ 10 (by decide)
   have hr0:=r6 (hL 9 (by decide))
   simp only[e8,e10]
   have R1:=Aa r1
   have R5:=Aa r5
   have R0:=Aa hr0
   clear hL hφ r1 r2 r3 r4 r5 r6 hr0
   go_wp2_with fail
   refine bodyPost_ret (v:=.tuple #[.pointer (some ⟨pb,0,none⟩),.agg ([.string a1,.string a2,.string a3]:List Value).toArray,.bool false]) ?_ rfl ?_
   ·exact Fp results48 _ _ w.heap.size [.string a1,.string a2,.string a3] _ _ _ rfl rfl rfl R0.o underlying62 rfl (by kernel_rfl)
   exact Nf.no HF.o rfl R1.o
  |some k=>
   have hcase':e=.returned (.tuple #[.agg #[.string ⟨k.signs.toArray⟩,.string ⟨k.base.toArray⟩,.string ⟨k.name.toArray⟩],.bool true]):=hcase
   subst hcase'
   clear hcase
   have hkn:k.name.length<=100:=Nat.le_trans (H8 (Hkok.o k rfl)) (by decide)
   have hz4:w2.heap.size<(w2.alloc (.cells #[.string ⟨k.signs.toArray⟩,.string ⟨k.base.toArray⟩,.string ⟨k.name.toArray⟩] 62)).heap.size:=by simp
   have hz2:w.heap.size<w2.heap.size:=by have:=hb2.size;omega
   have HT4:=Aa (show (w2.alloc (.cells #[.string ⟨k.signs.toArray⟩,.string ⟨k.base.toArray⟩,.string ⟨k.name.toArray⟩] 62)).there w.heap.size 0 3 from World.there_alloc (Al HT1.o hz1 hb2) _)
   have HX4:=Aa (show (w2.alloc (.cells #[.string ⟨k.signs.toArray⟩,.string ⟨k.base.toArray⟩,.string ⟨k.name.toArray⟩] 62)).rangeAt w2.heap.size 0 [.string ⟨k.signs.toArray⟩,.string ⟨k.base.toArray⟩,.string ⟨k.name.toArray⟩]from Bw w2 [.string ⟨k.signs.toArray⟩,.string ⟨k.base.toArray⟩,.string ⟨k.name.toArray⟩] _)
   have Hsl4:=Aa (show Qt (w.heap.size+1) (w2.alloc (.cells #[.string ⟨k.signs.toArray⟩,.string ⟨k.base.toArray⟩,.string ⟨k.name.toArray⟩] 62)) (.pointer (some ⟨pb,0,none⟩)) xs from(Hsl.o.below hb2).below ((Aq _ _).alloc (Ap _) _))
   have Hb4:=Aa (show Below w.heap.size w (w2.alloc (.cells #[.string ⟨k.signs.toArray⟩,.string ⟨k.base.toArray⟩,.string ⟨k.name.toArray⟩] 62))from(Hb1.o.trans (hb2.mono Hb1.o.size)).alloc (by omega) _)
   clear hb2
   go_wp2_with fail
   have HF3:=Aa (show Bn s d=if Bx (Ae xs) k then some (Ae xs,k)else none from HF.o)
   refine Bi [23,24,25,26,27,28,29,30,4,999,6] (by kernel_rfl) (by kernel_rfl) (by kernel_rfl) (fun u=>by dsimp only[Qbm,Bm,List.set,Nat.zero_add,Nat.reduceAdd])
    (fun i v W=>match i with|0=>v=.pointer (some ⟨pb,0,none⟩)|1=>v=.agg ([.string ⟨k.signs.toArray⟩,.string ⟨k.base.toArray⟩,.string ⟨k.name.toArray⟩]:List Value).toArray|2=>v=.bool true|3=>v=.bool true|4=>v=.pointer (some ⟨pb,0,none⟩)|5=>v=.agg ([.string ⟨k.signs.toArray⟩,.string ⟨k.base.toArray⟩,.string ⟨k.name.toArray⟩]:List Value).toArray|6=>v=.bool (decide (Bx (Ae xs) k))|7=>v=.bool (decide (Bx (Ae xs) k))|8=>v=.pointer (some ⟨pb,0,none⟩)|10=>v=.bool (decide (Bx (Ae xs) k))|_=>True) (fun L U W=>Below w.heap.size w W/\w2.heap.size<W.heap.size/\W.there w.heap.size 0 3/\W.rangeAt w2.heap.size 0 [.string ⟨k.signs.toArray⟩,.string ⟨k.base.toArray⟩,.string ⟨k.name.toArray⟩]/\Qt (w.heap.size+1) W (.pointer (some ⟨pb,0,none⟩)) xs/\(L 9=true->W.rangeAt w.heap.size 0 [.string ⟨k.signs.toArray⟩,.string ⟨k.base.toArray⟩,.string ⟨k.name.toArray⟩])) (fun _ _=>True) (fun _ _ _ _ _ h=>h) ⟨Hb4.o.drew,by simp,by simpa using HT4.o,by simpa using HX4.o,Hsl4.o.below ((Aq _ _).drew),by simp⟩ ?_ ?_
   ·repeat (first|exact Ah.nil|(refine Ah.cons ?_ ?_;rotate_left))
    all_goals
     rintro L U W hL hpre hR hun hdep K hK
     have HR:=Aa hR
     obtain⟨_,_,_,hxr,_,_⟩:=hR
     have c0:W.cell? ⟨w2.heap.size,0,none⟩=some (.string ⟨k.signs.toArray⟩):=by simpa using Ab hxr 0 rfl
     have c1:W.cell? ⟨w2.heap.size,1,none⟩=some (.string ⟨k.base.toArray⟩):=by simpa using Ab hxr 1 rfl
     have c2:W.cell? ⟨w2.heap.size,2,none⟩=some (.string ⟨k.name.toArray⟩):=by simpa using Ab hxr 2 rfl
     clear hun hdep hxr
     first|(simp[Region.binds]at hpre;done)|simp[Region.binds]at hpre|clear hpre
    ·go_simp
     first|exact hK _ _ _ rfl Ac HR.o (by first|rfl|simp[Act.put,hpre])|exact hK undef _ _ Ac Ac HR.o (by simp[Act.put,hpre])
    ·go_simp
     first|exact hK _ _ _ rfl Ac HR.o (by first|rfl|simp[Act.put,hpre])|exact hK undef _ _ Ac Ac HR.o (by simp[Act.put,hpre])
    ·go_simp
     first|exact hK _ _ _ rfl Ac HR.o (by first|rfl|simp[Act.put,hpre])|exact hK undef _ _ Ac Ac HR.o (by simp[Act.put,hpre])
    ·go_simp
     first|exact hK _ _ _ rfl Ac HR.o (by first|rfl|simp[Act.put,hpre])|exact hK undef _ _ Ac Ac HR.o (by simp[Act.put,hpre])
    ·go_simp
     first|exact hK _ _ _ rfl Ac HR.o (by first|rfl|simp[Act.put,hpre])|exact hK undef _ _ Ac Ac HR.o (by simp[Act.put,hpre])
    ·go_simp
     first|exact hK _ _ _ rfl Ac HR.o (by first|rfl|simp[Act.put,hpre])|exact hK undef _ _ Ac Ac HR.o (by simp[Act.put,hpre])
    ·go_simp
     obtain⟨r1,r2,r3,r4,r5,r6⟩:=HR.o
     refine(Qbh _ xs k W r5.isc.map hkn).mono ?_
     rintro e w5 ⟨rfl,hb5⟩
     exact hK (.bool (decide (Bx (Ae xs) k))) _ _ rfl Ac ⟨r1.trans (hb5.mono r1.size),Nat.lt_of_lt_of_le r2 hb5.size,Al r3 (show w.heap.size<W.heap.size by omega) hb5,Aj r4 r2 hb5,r5.below hb5,fun h=>Aj (r6 h) (show w.heap.size<W.heap.size by omega) hb5⟩ (by simp[Act.put,hpre])
    ·go_simp
     first|exact hK _ _ _ rfl Ac HR.o (by first|rfl|simp[Act.put,hpre])|exact hK undef _ _ Ac Ac HR.o (by simp[Act.put,hpre])
    ·go_simp
     first|exact hK _ _ _ rfl Ac HR.o (by first|rfl|simp[Act.put,hpre])|exact hK undef _ _ Ac Ac HR.o (by simp[Act.put,hpre])
    ·obtain⟨r1,r2,r3,r4,r5,r6⟩:=HR.o
     rw[if_pos (by rfl)]
     refine wp_store_mid 62 _ _ rfl w.heap.size 0 ([.string ⟨k.signs.toArray⟩,.string ⟨k.base.toArray⟩,.string ⟨k.name.toArray⟩]:List Value).toArray rfl hpre.1.2 r3 (by kernel_rfl) (by simp[Value.oneCell']) ?_
     exact hK undef _ _ Ac Ac ⟨Ag _ (Ap _) _ _ _ r1,by rw[B6];exact r2,World.there_setCells r3 _ _ _,World.rangeAt_setCells_apart r4 _ _ _ (.inl (show w2.heap.size≠w.heap.size by omega)),r5.far (Es _ _ _ W) (by omega),fun _=>World.rangeAt_setCells_same _ _ _ _ r3⟩ rfl
    ·go_simp
     first|exact hK _ _ _ rfl Ac HR.o (by first|rfl|simp[Act.put,hpre])|exact hK undef _ _ Ac Ac HR.o (by simp[Act.put,hpre])
   rintro L U W hL hφ ⟨r1,r2,r3,r4,r5,r6⟩
   have e8:U 8=.pointer (some ⟨pb,0,none⟩):=hφ 8 (by decide)
   have e10:U 10=.bool (decide (Bx (Ae xs) k)):=hφ 10 (by decide)
   have hr0:=r6 (hL 9 (by decide))
   simp only[e8,e10]
   have R1:=Aa r1
   have R5:=Aa r5
   have R0:=Aa hr0
   clear hL hφ r1 r2 r3 r4 r5 r6 hr0
   go_wp2_with fail
   refine bodyPost_ret (v:=.tuple #[.pointer (some ⟨pb,0,none⟩),.agg ([.string ⟨k.signs.toArray⟩,.string ⟨k.base.toArray⟩,.string ⟨k.name.toArray⟩]:List Value).toArray,.bool (decide (Bx (Ae xs) k))]) ?_ rfl ?_
   ·exact Fp results48 _ _ w.heap.size [.string ⟨k.signs.toArray⟩,.string ⟨k.base.toArray⟩,.string ⟨k.name.toArray⟩] _ _ _ rfl rfl rfl R0.o underlying62 rfl (by kernel_rfl)
   by_cases hr:Bx (Ae xs) k
   ·rw[decide_eq_true hr]
    unfold Nf
    rw[HF3.o,if_pos hr]
    exact⟨⟨_,xs,rfl,rfl,by
     obtain⟨b,A,c,mb,q0,q1,q2,q3,q4,q5,q6,q7,l1,l2,l3,l4⟩:=R5.o
     exact⟨b,A,c,mb,q0,q1,q2,q3,q4,q5,q6,q7,by omega,by omega,fun g o h1 h2=>by have:=l3 g o h1 h2;omega,fun x hx=>⟨by have:=(l4 x hx).1;omega,fun k h1 h2=>by have:=(l4 x hx).2 k h1 h2;omega⟩⟩⟩,R1.o⟩
   rw[decide_eq_false hr]
   exact Nf.no (HF3.o.trans (if_neg hr)) rfl R1.o
end
end Go.Proofs.YtkgkoicedddkmaaGreatDoor
