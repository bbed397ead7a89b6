/- Texts joined. Conditions: as each theorem names them. -/
import Derived.BigRegion
import Derived.BigQuiet
import Derived.Test.YtkgkoicedddkmaaGreatDoorR09
set_option maxRecDepth 100000
set_option maxHeartbeats 32000000
set_option linter.unusedVariables false
set_option linter.unusedSimpArgs false
namespace Go.Proofs.YtkgkoicedddkmaaGreatDoor
open Go.RowKit Go.Proofs.Tryz
section
attribute [local go_sem] Qiz Qii Qib Qgw ByteArray.mk_append_mk
theorem Zl(s:List UInt8)(nm u:List UInt8)(w:World)(hs:s.length<=1000)(h:s=(82::nm)++61::u)(hp:61∉82::nm)(hnm:Aw nm=true)(hu:u≠[]):
  Calls prog 88 #[s] w (Cr (Cb s) w):=by
 have HF:=@Aa (Cb s=Nu 82 nm (Ct 82 (Ai 44 u) [])) (Nm h hp hnm aK hu);have Hs:=Aa h;have Hsl:=Aa (show s.length=(82::nm).length+1+u.length by rw[h];simp;omega);have h0:0<s.length:=cB;have Hp:=Aa hp;have Hu:=Aa (fun W=>Cd nm W ba);rw[hnm]at Hu;have Hcut:=Aa (fun W=>Cg u 44 44 rfl W ba);have Hsp:=Aa (E7 44 u);have Hpl:=Aa (Ak 44 u);have Hps:=Aa (Dm 44 u);clear h hp hnm;go_enter func88,ntmps88;go_wp2_with fail;go_loopw [4] (fun i wr=>∃k:Nat,i=.int .i64 k/\k<s.length/\Hid (61∉s.take k)/\wr=w.alloc (.cells #[.int .u8 0,a8,.slice none 0 0] 100)) (fun i _=>s.length - (intOf i).toNat)
 case atStart=>exact⟨0,rfl,by omega,by simp[Hid],rfl⟩
 case round=>
  obtain⟨k,rfl,hlt,hno,rfl⟩:=hrel;have k1:(k:Int)<(s.length:Int):=aH;obtain⟨hkp,hiff⟩:=G9 Hs.o Hp.o hlt hno.o;have hb:=(s[k]).toNat_lt;by_cases hne:s[k]=61
  ·obtain rfl:k=nm.length+1:=hiff.1 hne;have t1:(((s[nm.length+1]).toNat:Int) != 61)=false:=bT;have t2:(((s[nm.length+1]).toNat:Int) == 61)=true:=Be hne;clear hne hiff hkp hno;have e0:s[0]=82:=dR;have e1:s.tail.take nm.length=nm:=bY;have e2:s.drop (nm.length+1+1)=u:=bY;have m1:(nm.length:Int)+1<(s.length:Int):=ba;have m2:¬((nm.length:Int)+1<1):=aH;have m3:¬((s.length:Int)<=(nm.length:Int)+1):=aH;have hn1:¬(w.heap.size+1=w.heap.size):=aH;go_wp2_with fail;go_region
   go_wp2_with fail;refine(Hu.o _).mono ?_;rintro e w2 ⟨rfl,rfl⟩;have hu1:(u == [])=false:=dx;generalize Ai 44 u=ps at HF Hcut Hsp Hpl Hps;go_wp2_with fail;refine(Hcut.o _).mono ?_;rintro e w3 ⟨v,rfl,ho,hb3⟩;obtain⟨hc3,hfz3,hz3⟩:=By hb3;have Hb3:=@Aa (Below w w w3) (((((Aq w.heap.size w).alloc (Ap _) _).alloc aL _).drew).trans (hb3.mono aM));have u0:w3.cell? (w,0)=some (.int .u8 0):=gY;have u1:w3.cell? (w,1)=a8:=gZ;have u2:w3.cell? (w,2)=some (.slice none 0 0):=hD;have d0:w3.cell? (w,1,0)=some (.int .u8 82):=gU;have d1:w3.cell? (w,1,1)=nm:=gV;have d2:w3.cell? (w,1,2)=some (.slice none 0 0):=gW;have f1:∀j,w3.frozen? ⟨w.heap.size,j,none⟩=false:=fun j=>gX;have f2:∀j,w3.frozen? ⟨w.heap.size+1,j,none⟩=false:=fun j=>gT;have z2:w.heap.size+1<w3.heap.size:=hz3 (w.heap.size+1) aL;rcases ho.2 with⟨_,h0'⟩|⟨g6,c6,cur6,rfl,hg6,hg6',_⟩
   ·exact absurd h0' cK
   have hrow:=@Aa (∀j x,(Bt ps)[j]?=some x->w3.cell? ⟨g6,j,none⟩=some x) (fun j x hx=>(Yk g6 j) ▸ ho.cells (g:=g6) rfl j x hx);have g6l:g6<w3.heap.size:=(ho.lt g6 rfl).2;have g6g:w.heap.size+1<g6:=fg;have Hown0:=Aa (World.ownsRow_nil w3 w3 104 4);clear hb3 ho hc3 hfz3 hz3 hg6 hg6';clear m2 m3 t1 t2 e0 e1 e2 hu1 hb;have hn2:¬(w.heap.size=w.heap.size+1):=aH;go_wp2_with fail
   go_loopw [7] (fun i wr=>∃(k:Nat) (acc:List Fd) (fv:Value),i=.int .i64 k/\k<=ps.length/\acc.length<=k/\Hid (Cb s=Nu 82 nm (Ct 82 (ps.drop k) acc)) /\
     Hid (wr.ownsRow w3 104 4 fv acc.length (acc.flatMap sfc))/\Hid (Below w w wr)/\w3.heap.size<=wr.heap.size /\
     (∀j x,(Bt ps)[j]?=some x->wr.cell? ⟨g6,j,none⟩=some x) /\
     wr.cell? (w,0)=some (.int .u8 0)/\wr.cell? (w,1)=a8/\wr.cell? (w,2)=some (.slice none 0 0) /\
     wr.cell? (w,1,0)=some (.int .u8 82)/\wr.cell? (w,1,1)=nm/\wr.cell? (w,1,2)=some fv /\
     (∀j,wr.frozen? ⟨w.heap.size,j,none⟩=false)/\(∀j,wr.frozen? ⟨w.heap.size+1,j,none⟩=false)) (fun i _=>ps.length - (intOf i).toNat)
   case atStart=>exact⟨0,[],.slice none 0 0,rfl,ag _,Ap _,HF.o,Hown0.o,Hb3.o,Ap _,hrow.o,u0,u1,u2,d0,d1,d2,f1,f2⟩
   case round=>
    clear u0 u1 u2 d0 d1 d2 f1 f2;have hpsl:ps.length<=1002:=ca;obtain⟨k,acc,fv,rfl,hk,hak,hft,hown,hbr,hszr,hpr,u0,u1,u2,d0,d1,d2,f1,f2⟩:=hrel;by_cases hlt:k<ps.length
    ·have cell:=hpr k (.string ⟨ps[k].toArray⟩) (by simp[Bt,hlt]);have hft2:=Aa ((M9 (c:=82) (acc:=acc) hlt) ▸ hft.o);have hplk:=Hpl.o _ (ae hlt);have Hpr:=Aa hpr;clear hpr;have i1:(0:Int)<=(k:Int):=aH;have i2:(k:Int)<(ps.length:Int):=aH;generalize ps[k]=p at cell hft2 hplk;have hp1:p.length<=1000:=ba;go_wp2_with fail;have Hread:=Aa (fun W=>(show Calls prog 109 #[p,.int .u8 82] W (Cp (Br 82 p) W)from Kn 82 aK p W hp1).mono (fun e W' h=>Ze h));generalize Br 82 p=o at hft2 Hread;have gl:g6<wr.heap.size:=aH;have bl:w.heap.size+1<wr.heap.size:=aH;refine rgE [79,80,81,82,83,84,85,78,86,87,8,999,9]
      (fun i v W=>match i with|0=>v=.slice (g6,0) ps.length c6|1=>v=.int .i64 k|2=>v=.pointer (some ⟨g6,k,none⟩)|3=>v=p|4=>v=(w,1,0)|5=>v=.int .u8 82|6=>Xm o v|7=>Xm o v|8=>Qah o v|9=>v=.bool o.isSome|12=>v=.bool o.isSome|_=>True)
      (fun L U W=>Below wr wr W/\(L 10=true->Qd9 W wr.heap.size (L 11) o (U 10))) ⟨(Aq _ _).drew,fun h=>by simp at h⟩ ?_ ?_
     ·repeat (first|exact Ah.nil|(refine Ah.cons ?_ ?_;rotate_left))
      all_goals
       rintro L U W hL hpre hR hun hdep K hK;have c1:W.cell? ⟨g6,k,none⟩=p:=(hR.1.cell (p:=⟨g6,k,none⟩) gl).trans cell;have c2:W.cell? (w,1,0)=some (.int .u8 82):=(hR.1.cell (p:=⟨w.heap.size+1,0,none⟩) bl).trans d0;have Hdep:=Aa hdep;clear hun hdep;first|(simp[Region.binds]at hpre;done)|simp[Region.binds]at hpre|clear hpre
      ·exact iQ
      ·exact iQ
      ·exact iL
      ·exact iL
      ·exact iQ
      ·exact iL
      ·exact iI
      ·exact jR
      ·exact jn
      ·exact jl
      ·exact iw
      ·exact hY
      ·exact iL
     rintro L U W hL hφ hR;obtain⟨hbW,hF8⟩:=hR;obtain⟨b8,e8,hl8,hs8,hfz8,_,hx8⟩:=hF8 (hL 10 aK);have e12:U 12=.bool o.isSome:=hφ 12 aK;simp only[e8];have hx9:=hx8 (hL 11 aK);obtain⟨hcW,hfzW,hzW⟩:=By hbW;rw[<-hcW _ _ bl]at d0 d1 d2;rw[<-hcW _ _ aH]at u0 u1 u2;have f1':∀j,W.frozen? ⟨w.heap.size,j,none⟩=false:=fun j=>(hfzW _ _ aH).trans (f1 j);have f2':∀j,W.frozen? ⟨w.heap.size+1,j,none⟩=false:=fun j=>(hfzW _ _ bl).trans (f2 j);have HbW:=Aa (hbr.o.trans (hbW.mono hbr.o.size));have Hpr':=@Aa (∀j x,(Bt ps)[j]?=some x->W.cell? ⟨g6,j,none⟩=some x) (fun j x hx=>(hcW _ _ gl).trans (Hpr.o j x hx));have Hown:=Aa (Cm hown.o hbW);have zW:w3.heap.size<=W.heap.size:=ad hszr hbW.size;have zb:w3.heap.size<=b8:=ad hszr hl8;clear hL hφ hF8 hx8 hbW hcW hfzW hzW f1 f2 hown hbr Hpr cell;cases o with
     |none=>
      have e12b:U 12=.bool false:=e12;simp only[e12b];obtain⟨A,cA,rfl,hrA⟩:=B9.ownK Hown.o bp;have Hend:=@Aa (Cb s=none) hft2.o;clear hft2 hft hx9;go_wp2_with fail;refine aF (v:=.tuple #[.agg #[.int .u8 82,nm,.slice A acc.length cA],.bool false]) (by simp[results,results88,go_sem,u0,u1,u2,d0,d1,d2,f1',hn1,hn2]) rfl ?_;exact Cr.no Hend.o rfl aQ
     |some f=>
      have e12b:U 12=.bool true:=e12;simp only[e12b];obtain⟨a0,a1,a2,a3⟩:=hx9 f rfl;clear hx9;obtain⟨A,cA,rfl,hrA⟩:=B9.ownK Hown.o bp;have hal:acc.length<=1001:=ca;have HrA:=Aa hrA;have hft3:=@Aa (Cb s=Nu 82 nm (if El acc f=false then none else Ct 82 (List.drop (k+1) ps) (acc++[f]))) hft2.o;clear hft2 hft hrA;go_wp2_with fail;go_loopw [10] (fun kk wq=>∃j:Nat,kk=.int .i64 j/\j<=acc.length/\(∃q,wq=W.drewN q)/\Hid (∀g∈acc.take j,g.name≠f.name/\g.tag<f.tag)) (fun kk _=>acc.length - (intOf kk).toNat)
      case atStart=>exact⟨0,rfl,ag _,⟨0,rfl⟩,by intro g hg;simp at hg⟩
      case round=>
       obtain⟨j,rfl,hj,⟨q,rfl⟩,hin⟩:=hrel;by_cases hjlt:j<acc.length
       ·obtain⟨bA,oA,rfl,hbA,g0,g1,g2,g3⟩:=Er.at_ HrA.o hjlt;have Hfn:=Aa (fun h=>Ym (f:=f) hjlt h);have Hfs:=Aa (fun h1 h2=>Rt hjlt hin.o h1 h2);generalize acc[j]=g at g0 g1 g2 g3 Hfn Hfs;have j1:(0:Int)<=(j:Int):=aH;have j2:(j:Int)<(acc.length:Int):=aH;by_cases ht:f.tag<=g.tag
        ·have s1:decide ((f.tag:Int)<=(g.tag:Int))=true:=cn;have s2:(f.tag:Int)<=(g.tag:Int):=aH;have Hend:=Aa (show Cb s=none by rw[hft3.o,if_pos (Hfn.o (.inl ht))];rfl);clear hft3 ht;go_wp2_with fail;go_quiet (fail)
         go_wp2_with fail;refine aF (v:=.tuple #[.agg #[.int .u8 82,nm,.slice (some ⟨bA,oA,none⟩) acc.length cA],.bool false]) (by simp[results,results88,go_sem,u0,u1,u2,d0,d1,d2,f1',hn1,hn2]) rfl ?_;exact Cr.no Hend.o rfl aQ
        have s1:decide ((f.tag:Int)<=(g.tag:Int))=false:=cn;have s2:¬(f.tag:Int)<=(g.tag:Int):=aH;have s4:decide (f.tag<=g.tag)=false:=cn;have s5:(f.tag<=g.tag)=False:=cn;by_cases hn:g.name=f.name
        ·have s3:(g.name == f.name)=true:=ej;have Hend:=Aa (show Cb s=none by rw[hft3.o,if_pos (Hfn.o (.inr hn))];rfl);clear hft3 ht hn;go_wp2_with fail;go_quiet (fail)
         go_wp2_with fail;refine aF (v:=.tuple #[.agg #[.int .u8 82,nm,.slice (some ⟨bA,oA,none⟩) acc.length cA],.bool false]) (by simp[results,results88,go_sem,u0,u1,u2,d0,d1,d2,f1',hn1,hn2]) rfl ?_;exact Cr.no Hend.o rfl aQ
        have s3:(g.name == f.name)=false:=ej;have Hin:=Aa (Hfs.o ht hn);clear ht hn;go_wp2_with fail;go_quiet (fail)
        go_wp2
        go_roundw
        case rel=>exact⟨j+1,by go_num,by omega,⟨_,rfl⟩,Hin.o⟩
        case measure=>simp[intOf];omega
       ·have hfit:El acc f=true:=Gr.2 (fun g hg=>hin.o g fw);have Hft4:=Aa (show Cb s=Nu 82 nm (Ct 82 (List.drop (k+1) ps) (acc++[f]))by rw[hft3.o,if_neg (by rw[hfit];decide)]);have Hown2:=@Aa ((W.drewN q).ownsRow w3 104 4 (.slice A acc.length cA) acc.length (acc.flatMap sfc)) Hown.o;clear hft3 hfit hin;go_wp2_with (at_builtin;go_loud (refine Pj _ rfl _ _ 98 rfl w3 104 sf0 4 56 underlying98 Qcs rfl aK (W.drewN q) [(f.tag:Int),f.name,.string ⟨(Bj f.kind).toArray⟩,f.given] rfl rfl bj _ acc.length (acc.flatMap sfc) rfl rfl Hown2.o aZ aH zW ?_;intro v5 w5 hown5 hb5;obtain⟨A5,c5,rfl,_⟩:=B9.ownK hown5 aZ;have Hown5:=Aa hown5;have hk5:∀b j,b<w3.heap.size->w5.cell? ⟨b,j,none⟩=W.cell? ⟨b,j,none⟩:=(fun b j h=>hb5.cell (p:=⟨b,j,none⟩) h);have hq5:∀b j,b<w3.heap.size->w5.frozen? ⟨b,j,none⟩=W.frozen? ⟨b,j,none⟩:=(fun b j h=>hb5.frozen (p:=⟨b,j,none⟩) h);have p0:=(hk5 w 0 aH).trans u0;have p1:=(hk5 w 1 aH).trans u1;have p2:=(hk5 w 2 aH).trans u2;have r0:=(hk5 (w.heap.size+1) 0 aH).trans d0;have r1:=(hk5 (w.heap.size+1) 1 aH).trans d1;have r2:=(hk5 (w.heap.size+1) 2 aH).trans d2;have n1:∀j,w5.frozen? ⟨w.heap.size,j,none⟩=false:=(fun j=>(hq5 _ j aH).trans (f1' j));have n2:∀j,w5.frozen? ⟨w.heap.size+1,j,none⟩=false:=(fun j=>(hq5 _ j aH).trans (f2' j));have z5:=hb5.size;have Hpr5:=@Aa (∀j x,(Bt ps)[j]?=some x->w5.cell? ⟨g6,j,none⟩=some x) (fun j x hx=>(hk5 g6 j aH).trans (Hpr'.out j x hx));have Hb5:=Aa (HbW.o.trans (((below_drewN (Aq _ W) q).trans hb5).mono aH));clear hk5 hq5 hb5 hown5 u0 u1 u2 d0 d1 d2 f1' f2' a0 a1 a2 a3))
        go_roundw
        case rel=>
         have zB:w.heap.size+1<w5.heap.size:=dL;have hg1:¬(w.heap.size+1=g6):=aH;have hg2:¬(g6=w.heap.size+1):=aH;refine⟨k+1,acc++[f],_,by go_num,by omega,by simp;omega,Hft4.o,?_,?_,?_,?_,?_,?_,?_,?_,?_,by simp[go_sem,r2,n2,zB];rfl,?_,?_⟩
         ·exact iJ
         ·exact Hb5.o.setCell ep _
         ·exact jD
         ·exact jp
         ·simp[go_sem,p0,hn1,hn2]
         ·simp[go_sem,p1,hn1,hn2]
         ·simp[go_sem,p2,hn1,hn2]
         ·simp[go_sem,r0]
         ·simp[go_sem,r1]
         ·intro j';simp[go_sem,n1]
         ·intro j';simp[go_sem,n2]
        case measure=>simp[intOf];omega
    ·obtain rfl:k=ps.length:=aH;obtain⟨A,cA,rfl,hrA⟩:=B9.ownK hown.o bp;have Hfin:=Aa (show Cb s=Nu 82 nm (some acc)by rw[hft.o,List.drop_length];rfl);have Hbase:=Aa (show w.heap.size<=w3.heap.size by omega);clear hft hpr hrA;by_cases h8:acc.length<=8
     ·have Hend:=Aa (show Cb s=some ⟨82,nm,acc⟩by rw[Hfin.o];exact if_pos h8);have s1:decide ((acc.length:Int)<=8)=true:=aM;have s2:(acc.length:Int)<=8:=aH;clear Hfin;go_wp2_with fail;go_region
      go_wp2_with fail;refine aF (v:=.tuple #[.agg #[.int .u8 82,nm,.slice A acc.length cA],.bool true]) (by simp[results,results88,go_sem,u0,u1,u2,d0,d1,d2,f1,hn1,hn2]) rfl ?_;refine Cr.yes (t:=⟨82,nm,acc⟩) Hend.o rfl (J0 (base:=w3.heap.size) ?_ Hbase.o) aT;exact ownsRow_setCell_below (ownsRow_setCell_below (ownsRow_setCell_below hown.o bH _) bH _) bH _
     have Hend:=Aa (show Cb s=none by rw[Hfin.o];exact if_neg h8);have s1:decide ((acc.length:Int)<=8)=false:=aM;have s2:¬(acc.length:Int)<=8:=aH;clear Hfin;go_wp2_with fail;go_region
     go_wp2_with fail;refine aF (v:=.tuple #[.agg #[.int .u8 82,nm,.slice A acc.length cA],.bool false]) (by simp[results,results88,go_sem,u0,u1,u2,d0,d1,d2,f1,hn1,hn2]) rfl ?_;exact Cr.no Hend.o rfl aT
  ·have Hno:=Aa (Dn hlt hno.o hne);have hk2:k+1<s.length:=by
    have h1:k≠(82::nm).length:=fun e=>hne (hiff.2 e);have h2:=Hsl.o;omega
   have t1:(((s[k]).toNat:Int) != 61)=true:=bM;have t2:(((s[k]).toNat:Int) == 61)=false:=Am hne;clear hne hiff hkp;go_wp2_with fail;go_roundw
   case rel=>exact⟨k+1,by go_num,hk2,Hno.o,Ac⟩
   case measure=>simp[intOf];omega
end
end Go.Proofs.YtkgkoicedddkmaaGreatDoor
