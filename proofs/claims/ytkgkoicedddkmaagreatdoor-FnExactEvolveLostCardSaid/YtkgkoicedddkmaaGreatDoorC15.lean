/- Texts joined. Conditions: as each theorem names them. -/
import Derived.BigRegion
import Derived.BigQuiet
import Derived.Test.YtkgkoicedddkmaaGreatDoorC03
import Derived.Test.YtkgkoicedddkmaaGreatDoorC14
set_option maxRecDepth 100000
set_option maxHeartbeats 32000000
set_option linter.unusedVariables false
set_option linter.unusedSimpArgs false
namespace Go.Proofs.YtkgkoicedddkmaaGreatDoor
open Go.RowKit Go.Proofs.Tryz
section
attribute [local go_sem] Qiz Qii Qib Qgw ByteArray.mk_append_mk
theorem Zl(s:List UInt8)(nm u:List UInt8)(w:World)(hs:s.length<=1000)(h:s=(82::nm)++61::u)(hp:61∉82::nm)(hnm:Aw nm=true)(hu:u≠[]):
  Calls prog 88 #[.string ⟨s.toArray⟩] w (Cr (Cb s) w):=by
 have HF:=Aa (show Cb s=Nu 82 nm (Ct 82 (Ai 44 u) [])from Nm h hp hnm (by decide) hu)
 have Hs:=Aa h
 have Hsl:=Aa (show s.length=(82::nm).length+1+u.length by rw[h];simp;omega)
 have h0:0<s.length:=by have:=Hsl.o;omega
 have Hp:=Aa hp
 have Hu:=Aa (fun W=>Cd nm W (by have:=Hsl.o;simp at this;omega))
 rw[hnm]at Hu
 have Hcut:=Aa (fun W=>Cg u 44 44 rfl W (by have:=Hsl.o;simp at this;omega))
 have Hsp:=Aa (E7 44 u)
 have Hpl:=Aa (Ak 44 u)
 have Hps:=Aa (Dm 44 u)
 clear h hp hnm
 go_enter func88,ntmps88
 go_wp2_with fail
 go_loopw [4] (fun i wr=>∃k:Nat,i=.int .i64 k/\k<s.length/\Hid (61∉s.take k)/\wr=w.alloc (.cells #[.int .u8 0,.string ⟨#[]⟩,.slice none 0 0] 100)) (fun i _=>s.length - (intOf i).toNat)
 case atStart=>exact⟨0,rfl,by omega,by simp[Hid],rfl⟩
 case round=>
  obtain⟨k,rfl,hlt,hno,rfl⟩:=hrel
  have k1:(k:Int)<(s.length:Int):=by omega
  obtain⟨hkp,hiff⟩:=G9 Hs.o Hp.o hlt hno.o
  have hb:=(s[k]).toNat_lt
  by_cases hne:s[k]=61
  ·obtain rfl:k=nm.length+1:=hiff.1 hne
   have t1:(((s[nm.length+1]).toNat:Int) != 61)=false:=by have:=Be hne;simpa using this
   have t2:(((s[nm.length+1]).toNat:Int) == 61)=true:=Be hne
   clear hne hiff hkp hno
   have e0:s[0]=82:=by simp[Hs.o]
   have e1:s.tail.take nm.length=nm:=by rw[Hs.o];simp
   have e2:s.drop (nm.length+1+1)=u:=by rw[Hs.o];simp
   have m1:(nm.length:Int)+1<(s.length:Int):=by have:=Hsl.o;simp at this;omega
   have m2:¬((nm.length:Int)+1<1):=by omega
   have m3:¬((s.length:Int)<=(nm.length:Int)+1):=by omega
   have hn1:¬(w.heap.size+1=w.heap.size):=by omega
   go_wp2_with fail
   go_region
   go_wp2_with fail
   refine(Hu.o _).mono ?_
   rintro e w2 ⟨rfl,rfl⟩
   have hu1:(u == [])=false:=by simpa using hu
   generalize Ai 44 u=ps at HF Hcut Hsp Hpl Hps
   go_wp2_with fail
   refine(Hcut.o _).mono ?_
   rintro e w3 ⟨v,rfl,ho,hb3⟩
   obtain⟨hc3,hfz3,hz3⟩:=By hb3
   have Hb3:=Aa (show Below w.heap.size w w3 from((((Aq w.heap.size w).alloc (Ap _) _).alloc (by simp) _).drew).trans (hb3.mono (by simp;omega)))
   have u0:w3.cell? ⟨w.heap.size,0,none⟩=some (.int .u8 0):=by rw[hc3 w.heap.size 0 (by simp;omega)];simp
   have u1:w3.cell? ⟨w.heap.size,1,none⟩=some (.string ⟨#[]⟩):=by rw[hc3 w.heap.size 1 (by simp;omega)];simp
   have u2:w3.cell? ⟨w.heap.size,2,none⟩=some (.slice none 0 0):=by rw[hc3 w.heap.size 2 (by simp;omega)];simp
   have d0:w3.cell? ⟨w.heap.size+1,0,none⟩=some (.int .u8 82):=by rw[hc3 (w.heap.size+1) 0 (by simp)];simp
   have d1:w3.cell? ⟨w.heap.size+1,1,none⟩=some (.string ⟨nm.toArray⟩):=by rw[hc3 (w.heap.size+1) 1 (by simp)];simp
   have d2:w3.cell? ⟨w.heap.size+1,2,none⟩=some (.slice none 0 0):=by rw[hc3 (w.heap.size+1) 2 (by simp)];simp
   have f1:∀j,w3.frozen? ⟨w.heap.size,j,none⟩=false:=fun j=>by rw[hfz3 w.heap.size j (by simp;omega)];simp
   have f2:∀j,w3.frozen? ⟨w.heap.size+1,j,none⟩=false:=fun j=>by rw[hfz3 (w.heap.size+1) j (by simp)];simp
   have z2:w.heap.size+1<w3.heap.size:=hz3 (w.heap.size+1) (by simp)
   rcases ho.2 with⟨_,h0'⟩|⟨g6,c6,cur6,rfl,hg6,hg6',_⟩
   ·exact absurd h0' (by have:=Hps.o;cases ps with|nil=>exact fun h=>(this rfl).elim|cons=>simp)
   have hrow:=Aa (show ∀j x,(Bt ps)[j]?=some x->w3.cell? ⟨g6,j,none⟩=some x from fun j x hx=>(Yk g6 j) ▸ ho.cells (g:=g6) rfl j x hx)
   have g6l:g6<w3.heap.size:=(ho.lt g6 rfl).2
   have g6g:w.heap.size+1<g6:=by have:=hg6;simp at this;omega
   have Hown0:=Aa (World.ownsRow_nil w3 w3.heap.size 104 4)
   clear hb3 ho hc3 hfz3 hz3 hg6 hg6'
   clear m2 m3 t1 t2 e0 e1 e2 hu1 hb
   have hn2:¬(w.heap.size=w.heap.size+1):=by omega
   go_wp2_with fail
   go_loopw [7] (fun i wr=>∃(k:Nat) (acc:List Fd) (fv:Value),i=.int .i64 k/\k<=ps.length/\acc.length<=k/\Hid (Cb s=Nu 82 nm (Ct 82 (ps.drop k) acc)) /\
     Hid (wr.ownsRow w3.heap.size 104 4 fv acc.length (acc.flatMap sfc))/\Hid (Below w.heap.size w wr)/\w3.heap.size<=wr.heap.size /\
     (∀j x,(Bt ps)[j]?=some x->wr.cell? ⟨g6,j,none⟩=some x) /\
     wr.cell? ⟨w.heap.size,0,none⟩=some (.int .u8 0)/\wr.cell? ⟨w.heap.size,1,none⟩=some (.string ⟨#[]⟩)/\wr.cell? ⟨w.heap.size,2,none⟩=some (.slice none 0 0) /\
     wr.cell? ⟨w.heap.size+1,0,none⟩=some (.int .u8 82)/\wr.cell? ⟨w.heap.size+1,1,none⟩=some (.string ⟨nm.toArray⟩)/\wr.cell? ⟨w.heap.size+1,2,none⟩=some fv /\
     (∀j,wr.frozen? ⟨w.heap.size,j,none⟩=false)/\(∀j,wr.frozen? ⟨w.heap.size+1,j,none⟩=false)) (fun i _=>ps.length - (intOf i).toNat)
   case atStart=>exact⟨0,[],.slice none 0 0,rfl,Nat.zero_le _,Ap _,HF.o,Hown0.o,Hb3.o,Ap _,hrow.o,u0,u1,u2,d0,d1,d2,f1,f2⟩
   case round=>
    clear u0 u1 u2 d0 d1 d2 f1 f2
    have hpsl:ps.length<=1002:=by have:=Hsp.o;have:=Hsl.o;simp at this;omega
    obtain⟨k,acc,fv,rfl,hk,hak,hft,hown,hbr,hszr,hpr,u0,u1,u2,d0,d1,d2,f1,f2⟩:=hrel
    by_cases hlt:k<ps.length
    ·have cell:=hpr k (.string ⟨ps[k].toArray⟩) (by simp[Bt,hlt])
     have hft2:=Aa ((M9 (c:=82) (acc:=acc) hlt) ▸ hft.o)
     have hplk:=Hpl.o _ (List.getElem_mem hlt)
     have Hpr:=Aa hpr
     clear hpr
     have i1:(0:Int)<=(k:Int):=by omega
     have i2:(k:Int)<(ps.length:Int):=by omega
     generalize ps[k]=p at cell hft2 hplk
     have hp1:p.length<=1000:=by have:=Hsl.o;simp at this;omega
     go_wp2_with fail
     have Hread:=Aa (fun W=>(show Calls prog 109 #[.string ⟨p.toArray⟩,.int .u8 82] W (Cp (Br 82 p) W)from Kn 82 (by decide) p W hp1).mono (fun e W' h=>Ze h))
     generalize Br 82 p=o at hft2 Hread
     have gl:g6<wr.heap.size:=by omega
     have bl:w.heap.size+1<wr.heap.size:=by omega
     refine rgE [79,80,81,82,83,84,85,78,86,87,8,999,9]
      (fun i v W=>match i with|0=>v=.slice (some ⟨g6,0,none⟩) ps.length c6|1=>v=.int .i64 k|2=>v=.pointer (some ⟨g6,k,none⟩)|3=>v=.string ⟨p.toArray⟩|4=>v=.pointer (some ⟨w.heap.size+1,0,none⟩)|5=>v=.int .u8 82|6=>Xm o v|7=>Xm o v|8=>Qah o v|9=>v=.bool o.isSome|12=>v=.bool o.isSome|_=>True)
      (fun L U W=>Below wr.heap.size wr W/\(L 10=true->Qd9 W wr.heap.size (L 11) o (U 10))) ⟨(Aq _ _).drew,fun h=>by simp at h⟩ ?_ ?_
     ·repeat (first|exact Ah.nil|(refine Ah.cons ?_ ?_;rotate_left))
      all_goals
       rintro L U W hL hpre hR hun hdep K hK
       have c1:W.cell? ⟨g6,k,none⟩=some (.string ⟨p.toArray⟩):=(hR.1.cell (p:=⟨g6,k,none⟩) gl).trans cell
       have c2:W.cell? ⟨w.heap.size+1,0,none⟩=some (.int .u8 82):=(hR.1.cell (p:=⟨w.heap.size+1,0,none⟩) bl).trans d0
       have Hdep:=Aa hdep
       clear hun hdep
       first|(simp[Region.binds]at hpre;done)|simp[Region.binds]at hpre|clear hpre
      ·go_simp
       exact hK _ _ _ rfl Ac hR rfl
      ·go_simp
       exact hK _ _ _ rfl Ac hR rfl
      ·go_simp
       exact hK _ _ _ rfl Ac hR (by simp[Act.put,hpre])
      ·go_simp
       exact hK _ _ _ rfl Ac hR (by simp[Act.put,hpre])
      ·go_simp
       exact hK _ _ _ rfl Ac hR rfl
      ·go_simp
       exact hK _ _ _ rfl Ac hR (by simp[Act.put,hpre])
      ·go_simp
       refine(Hread.o _).mono ?_
       rintro e w1 ⟨⟨rv,rfl,hv⟩,hb1⟩
       exact hK _ _ _ ⟨rv,rfl,hv⟩ Ac ⟨hR.1.trans (hb1.mono hR.1.size),fun h=>(hR.2 h).below hb1⟩ (by simp[Act.put,hpre])
      ·go_simp
       exact hK _ _ _ hpre.2 Ac hR rfl
      ·obtain⟨_,rv,hv,hf⟩:=hpre
       go_simp
       exact hK _ _ _ hf Ac hR (by simp[Act.put,hv])
      ·obtain⟨_,rv,hv,hf⟩:=hpre
       go_simp
       exact hK _ _ _ rfl Ac hR (by simp[Act.put,hv])
      ·have h11:L 11=false:=Ax Hdep.o 11 10 rfl hL
       go_simp
       refine hK _ _ _ Ac Ac ⟨hR.1.alloc hR.1.size _,fun _=>?_⟩ rfl
       refine⟨W.heap.size,rfl,hR.1.size,by simp,fun j=>by simp,⟨_,_,_,_,by simp;rfl,by simp;rfl,by simp;rfl,by simp;rfl⟩,?_⟩
       intro h f hf
       exact absurd (h11.symm.trans (by simpa using h)) (by decide)
      ·obtain⟨h10,⟨_,hf8⟩,hrest⟩:=hpre
       obtain⟨b8,e8,hl8,hs8,hfz8,⟨x0,x1,x2,x3,y0,y1,y2,y3⟩,_⟩:=hR.2 h10
       cases o with
       |none=>
        obtain⟨x,a,b,c,hx⟩:=hf8
        go_simp
        refine hK undef _ _ Ac Ac ⟨?_,fun _=>⟨b8,e8,hl8,by simp[hs8],fun j=>by simp[go_sem,hfz8],⟨_,_,_,_,by simp[go_sem,y0,y1,y2,y3,hfz8,hs8];rfl,by simp[go_sem,y0,y1,y2,y3,hfz8,hs8];rfl,by simp[go_sem,y0,y1,y2,y3,hfz8,hs8];rfl,by simp[go_sem,y0,y1,y2,y3,hfz8,hs8];rfl⟩,fun _ f hf=>by cases hf⟩⟩ (by simp[Act.put,e8,hx,hrest])
        exact(((hR.1.setCell hl8 _).setCell hl8 _).setCell hl8 _).setCell hl8 _
       |some f=>
        have hx:U 8=.agg #[.int .i64 (f.tag:Int),.string ⟨f.name.toArray⟩,.string ⟨(Bj f.kind).toArray⟩,.string ⟨f.given.toArray⟩]:=hf8
        go_simp
        refine hK undef _ _ Ac Ac ⟨?_,fun _=>⟨b8,e8,hl8,by simp[hs8],fun j=>by simp[go_sem,hfz8],⟨_,_,_,_,by simp[go_sem,y0,y1,y2,y3,hfz8,hs8];rfl,by simp[go_sem,y0,y1,y2,y3,hfz8,hs8];rfl,by simp[go_sem,y0,y1,y2,y3,hfz8,hs8];rfl,by simp[go_sem,y0,y1,y2,y3,hfz8,hs8];rfl⟩,fun _ f' hf=>by cases hf;simp[go_sem,y0,y1,y2,y3,hfz8,hs8]⟩⟩ (by simp[Act.put,e8,hx,hrest])
        exact(((hR.1.setCell hl8 _).setCell hl8 _).setCell hl8 _).setCell hl8 _
      ·go_simp
       exact hK _ _ _ rfl Ac hR (by simp[Act.put,hpre])
     rintro L U W hL hφ hR
     obtain⟨hbW,hF8⟩:=hR
     obtain⟨b8,e8,hl8,hs8,hfz8,_,hx8⟩:=hF8 (hL 10 (by decide))
     have e12:U 12=.bool o.isSome:=hφ 12 (by decide)
     simp only[e8]
     have hx9:=hx8 (hL 11 (by decide))
     obtain⟨hcW,hfzW,hzW⟩:=By hbW
     rw[<-hcW _ _ bl]at d0 d1 d2
     rw[<-hcW _ _ (by omega)]at u0 u1 u2
     have f1':∀j,W.frozen? ⟨w.heap.size,j,none⟩=false:=fun j=>(hfzW _ _ (by omega)).trans (f1 j)
     have f2':∀j,W.frozen? ⟨w.heap.size+1,j,none⟩=false:=fun j=>(hfzW _ _ bl).trans (f2 j)
     have HbW:=Aa (hbr.o.trans (hbW.mono hbr.o.size))
     have Hpr':=Aa (show ∀j x,(Bt ps)[j]?=some x->W.cell? ⟨g6,j,none⟩=some x from fun j x hx=>(hcW _ _ gl).trans (Hpr.o j x hx))
     have Hown:=Aa (Cm hown.o hbW)
     have zW:w3.heap.size<=W.heap.size:=Nat.le_trans hszr hbW.size
     have zb:w3.heap.size<=b8:=Nat.le_trans hszr hl8
     clear hL hφ hF8 hx8 hbW hcW hfzW hzW f1 f2 hown hbr Hpr cell
     cases o with
     |none=>
      have e12b:U 12=.bool false:=e12
      simp only[e12b]
      obtain⟨A,cA,rfl,hrA⟩:=B9.ownK Hown.o (by unfold maxLen;have:=Hsp.o;have:=Hsl.o;simp at this;omega)
      have Hend:=Aa (show Cb s=none from hft2.o)
      clear hft2 hft hx9
      go_wp2_with fail
      refine bodyPost_ret (v:=.tuple #[.agg #[.int .u8 82,.string ⟨nm.toArray⟩,.slice A acc.length cA],.bool false]) (by simp[results,results88,go_sem,u0,u1,u2,d0,d1,d2,f1',hn1,hn2]) rfl ?_
      exact Cr.no Hend.o rfl (by(repeat (first|exact HbW.o|refine Below.setCell ?_ (by first|exact Ap _|(simp;done)|(simp;omega)|omega) _|refine Below.alloc ?_ (by first|exact Ap _|(simp;done)|(simp;omega)|omega) _|refine Below.drew ?_|refine below_drewN ?_ _)))
     |some f=>
      have e12b:U 12=.bool true:=e12
      simp only[e12b]
      obtain⟨a0,a1,a2,a3⟩:=hx9 f rfl
      clear hx9
      obtain⟨A,cA,rfl,hrA⟩:=B9.ownK Hown.o (by unfold maxLen;have:=Hsp.o;have:=Hsl.o;simp at this;omega)
      have hal:acc.length<=1001:=by have:=Hsp.o;have:=Hsl.o;simp at this;omega
      have HrA:=Aa hrA
      have hft3:=Aa (show Cb s=Nu 82 nm (if El acc f=false then none else Ct 82 (List.drop (k+1) ps) (acc++[f]))from hft2.o)
      clear hft2 hft hrA
      go_wp2_with fail
      go_loopw [10] (fun kk wq=>∃j:Nat,kk=.int .i64 j/\j<=acc.length/\(∃q,wq=W.drewN q)/\Hid (∀g∈acc.take j,g.name≠f.name/\g.tag<f.tag)) (fun kk _=>acc.length - (intOf kk).toNat)
      case atStart=>exact⟨0,rfl,Nat.zero_le _,⟨0,rfl⟩,by intro g hg;simp at hg⟩
      case round=>
       obtain⟨j,rfl,hj,⟨q,rfl⟩,hin⟩:=hrel
       by_cases hjlt:j<acc.length
       ·obtain⟨bA,oA,rfl,hbA,g0,g1,g2,g3⟩:=Er.at_ HrA.o hjlt
        have Hfn:=Aa (fun h=>Ym (f:=f) hjlt h)
        have Hfs:=Aa (fun h1 h2=>Rt hjlt hin.o h1 h2)
        generalize acc[j]=g at g0 g1 g2 g3 Hfn Hfs
        have j1:(0:Int)<=(j:Int):=by omega
        have j2:(j:Int)<(acc.length:Int):=by omega
        by_cases ht:f.tag<=g.tag
        ·have s1:decide ((f.tag:Int)<=(g.tag:Int))=true:=by simpa using ht
         have s2:(f.tag:Int)<=(g.tag:Int):=by omega
         have Hend:=Aa (show Cb s=none by rw[hft3.o,if_pos (Hfn.o (.inl ht))];rfl)
         clear hft3 ht
         go_wp2_with fail
         go_quiet (fail)
         go_wp2_with fail
         refine bodyPost_ret (v:=.tuple #[.agg #[.int .u8 82,.string ⟨nm.toArray⟩,.slice (some ⟨bA,oA,none⟩) acc.length cA],.bool false]) (by simp[results,results88,go_sem,u0,u1,u2,d0,d1,d2,f1',hn1,hn2]) rfl ?_
         exact Cr.no Hend.o rfl (by(repeat (first|exact HbW.o|refine Below.setCell ?_ (by first|exact Ap _|(simp;done)|(simp;omega)|omega) _|refine Below.alloc ?_ (by first|exact Ap _|(simp;done)|(simp;omega)|omega) _|refine Below.drew ?_|refine below_drewN ?_ _)))
        have s1:decide ((f.tag:Int)<=(g.tag:Int))=false:=by simpa using ht
        have s2:¬(f.tag:Int)<=(g.tag:Int):=by omega
        have s4:decide (f.tag<=g.tag)=false:=by simpa using ht
        have s5:(f.tag<=g.tag)=False:=by simpa using ht
        by_cases hn:g.name=f.name
        ·have s3:(g.name == f.name)=true:=by simpa using hn
         have Hend:=Aa (show Cb s=none by rw[hft3.o,if_pos (Hfn.o (.inr hn))];rfl)
         clear hft3 ht hn
         go_wp2_with fail
         go_quiet (fail)
         go_wp2_with fail
         refine bodyPost_ret (v:=.tuple #[.agg #[.int .u8 82,.string ⟨nm.toArray⟩,.slice (some ⟨bA,oA,none⟩) acc.length cA],.bool false]) (by simp[results,results88,go_sem,u0,u1,u2,d0,d1,d2,f1',hn1,hn2]) rfl ?_
         exact Cr.no Hend.o rfl (by(repeat (first|exact HbW.o|refine Below.setCell ?_ (by first|exact Ap _|(simp;done)|(simp;omega)|omega) _|refine Below.alloc ?_ (by first|exact Ap _|(simp;done)|(simp;omega)|omega) _|refine Below.drew ?_|refine below_drewN ?_ _)))
        have s3:(g.name == f.name)=false:=by simpa using hn
        have Hin:=Aa (Hfs.o ht hn)
        clear ht hn
        go_wp2_with fail
        go_quiet (fail)
        go_wp2
        go_roundw
        case rel=>exact⟨j+1,by go_num,by omega,⟨_,rfl⟩,Hin.o⟩
        case measure=>simp[intOf];omega
       ·have hfit:El acc f=true:=Gr.2 (fun g hg=>hin.o g (by rw[List.take_of_length_le (by omega)];exact hg))
        have Hft4:=Aa (show Cb s=Nu 82 nm (Ct 82 (List.drop (k+1) ps) (acc++[f]))by rw[hft3.o,if_neg (by rw[hfit];decide)])
        have Hown2:=Aa (show (W.drewN q).ownsRow w3.heap.size 104 4 (.slice A acc.length cA) acc.length (acc.flatMap sfc)from Hown.o)
        clear hft3 hfit hin
        go_wp2_with (at_builtin;go_loud (refine Pj _ rfl _ _ 98 rfl w3.heap.size 104 sf0 4 56 underlying98 Qcs rfl (by decide) (W.drewN q) [.int .i64 (f.tag:Int),.string ⟨f.name.toArray⟩,.string ⟨(Bj f.kind).toArray⟩,.string ⟨f.given.toArray⟩] rfl rfl (by simp[Value.oneCell']) _ acc.length (acc.flatMap sfc) rfl rfl Hown2.o (by unfold maxLen;omega) (by omega) zW ?_;intro v5 w5 hown5 hb5;obtain⟨A5,c5,rfl,_⟩:=B9.ownK hown5 (by unfold maxLen;omega);have Hown5:=Aa hown5;have hk5:∀b j,b<w3.heap.size->w5.cell? ⟨b,j,none⟩=W.cell? ⟨b,j,none⟩:=(fun b j h=>hb5.cell (p:=⟨b,j,none⟩) h);have hq5:∀b j,b<w3.heap.size->w5.frozen? ⟨b,j,none⟩=W.frozen? ⟨b,j,none⟩:=(fun b j h=>hb5.frozen (p:=⟨b,j,none⟩) h);have p0:=(hk5 w.heap.size 0 (by omega)).trans u0;have p1:=(hk5 w.heap.size 1 (by omega)).trans u1;have p2:=(hk5 w.heap.size 2 (by omega)).trans u2;have r0:=(hk5 (w.heap.size+1) 0 (by omega)).trans d0;have r1:=(hk5 (w.heap.size+1) 1 (by omega)).trans d1;have r2:=(hk5 (w.heap.size+1) 2 (by omega)).trans d2;have n1:∀j,w5.frozen? ⟨w.heap.size,j,none⟩=false:=(fun j=>(hq5 _ j (by omega)).trans (f1' j));have n2:∀j,w5.frozen? ⟨w.heap.size+1,j,none⟩=false:=(fun j=>(hq5 _ j (by omega)).trans (f2' j));have z5:=hb5.size;have Hpr5:=Aa (show ∀j x,(Bt ps)[j]?=some x->w5.cell? ⟨g6,j,none⟩=some x from fun j x hx=>(hk5 g6 j (by omega)).trans (Hpr'.out j x hx));have Hb5:=Aa (HbW.o.trans (((below_drewN (Aq _ W) q).trans hb5).mono (by omega)));clear hk5 hq5 hb5 hown5 u0 u1 u2 d0 d1 d2 f1' f2' a0 a1 a2 a3))
        go_roundw
        case rel=>
         have zB:w.heap.size+1<w5.heap.size:=by have:W.heap.size<=w5.heap.size:=z5;omega
         have hg1:¬(w.heap.size+1=g6):=by omega
         have hg2:¬(g6=w.heap.size+1):=by omega
         refine⟨k+1,acc++[f],_,by go_num,by omega,by simp;omega,Hft4.o,?_,?_,?_,?_,?_,?_,?_,?_,?_,by simp[go_sem,r2,n2,zB];rfl,?_,?_⟩
         ·have h5:=ownsRow_setCell_below Hown5.o (a:=⟨w.heap.size+1,2,none⟩) (by show w.heap.size+1<w3.heap.size;omega) (.slice A5 (acc.length+1) c5)
          show World.ownsRow _ _ _ _ _ _ _
          rw[List.flatMap_append,List.length_append]
          exact h5
         ·exact Hb5.o.setCell (by show w.heap.size<=w.heap.size+1;omega) _
         ·have:W.heap.size<=w5.heap.size:=z5
          simp;omega
         ·intro j' x hx
          have:=Hpr5.o j' x hx
          simp[go_sem,this,hg1,hg2]
         ·simp[go_sem,p0,hn1,hn2]
         ·simp[go_sem,p1,hn1,hn2]
         ·simp[go_sem,p2,hn1,hn2]
         ·simp[go_sem,r0]
         ·simp[go_sem,r1]
         ·intro j';simp[go_sem,n1]
         ·intro j';simp[go_sem,n2]
        case measure=>simp[intOf];omega
    ·obtain rfl:k=ps.length:=by omega
     obtain⟨A,cA,rfl,hrA⟩:=B9.ownK hown.o (by unfold maxLen;have:=Hsp.o;have:=Hsl.o;simp at this;omega)
     have Hfin:=Aa (show Cb s=Nu 82 nm (some acc)by rw[hft.o,List.drop_length];rfl)
     have Hbase:=Aa (show w.heap.size<=w3.heap.size by omega)
     clear hft hpr hrA
     by_cases h8:acc.length<=8
     ·have Hend:=Aa (show Cb s=some ⟨82,nm,acc⟩by rw[Hfin.o];exact if_pos h8)
      have s1:decide ((acc.length:Int)<=8)=true:=by simp;omega
      have s2:(acc.length:Int)<=8:=by omega
      clear Hfin
      go_wp2_with fail
      go_region
      go_wp2_with fail
      refine bodyPost_ret (v:=.tuple #[.agg #[.int .u8 82,.string ⟨nm.toArray⟩,.slice A acc.length cA],.bool true]) (by simp[results,results88,go_sem,u0,u1,u2,d0,d1,d2,f1,hn1,hn2]) rfl ?_
      refine Cr.yes (t:=⟨82,nm,acc⟩) Hend.o rfl (J0 (base:=w3.heap.size) ?_ Hbase.o) (by(repeat (first|exact hbr.o|refine Below.setCell ?_ (by first|exact Ap _|(simp;done)|(simp;omega)|omega) _|refine Below.alloc ?_ (by first|exact Ap _|(simp;done)|(simp;omega)|omega) _|refine Below.drew ?_|refine below_drewN ?_ _)))
      exact ownsRow_setCell_below (ownsRow_setCell_below (ownsRow_setCell_below hown.o (by show w.heap.size<w3.heap.size;omega) _) (by show w.heap.size<w3.heap.size;omega) _) (by show w.heap.size<w3.heap.size;omega) _
     have Hend:=Aa (show Cb s=none by rw[Hfin.o];exact if_neg h8)
     have s1:decide ((acc.length:Int)<=8)=false:=by simp;omega
     have s2:¬(acc.length:Int)<=8:=by omega
     clear Hfin
     go_wp2_with fail
     go_region
     go_wp2_with fail
     refine bodyPost_ret (v:=.tuple #[.agg #[.int .u8 82,.string ⟨nm.toArray⟩,.slice A acc.length cA],.bool false]) (by simp[results,results88,go_sem,u0,u1,u2,d0,d1,d2,f1,hn1,hn2]) rfl ?_
     exact Cr.no Hend.o rfl (by(repeat (first|exact hbr.o|refine Below.setCell ?_ (by first|exact Ap _|(simp;done)|(simp;omega)|omega) _|refine Below.alloc ?_ (by first|exact Ap _|(simp;done)|(simp;omega)|omega) _|refine Below.drew ?_|refine below_drewN ?_ _)))
  ·have Hno:=Aa (Dn hlt hno.o hne)
   have hk2:k+1<s.length:=by
    have h1:k≠(82::nm).length:=fun e=>hne (hiff.2 e)
    have h2:=Hsl.o
    omega
   have t1:(((s[k]).toNat:Int) != 61)=true:=by have:=Am hne;simpa using this
   have t2:(((s[k]).toNat:Int) == 61)=false:=Am hne
   clear hne hiff hkp
   go_wp2_with fail
   go_roundw
   case rel=>exact⟨k+1,by go_num,hk2,Hno.o,Ac⟩
   case measure=>simp[intOf];omega
end
end Go.Proofs.YtkgkoicedddkmaaGreatDoor
