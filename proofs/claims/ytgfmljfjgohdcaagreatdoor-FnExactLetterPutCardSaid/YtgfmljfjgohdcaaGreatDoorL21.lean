/- Texts joined. Conditions: as each theorem names them. -/
import Derived.Laws.AppendOwnNone
import Derived.Test.YtgfmljfjgohdcaaGreatDoorL20
set_option maxRecDepth 100000
set_option maxHeartbeats 32000000
set_option linter.unusedVariables false
set_option linter.unusedSimpArgs false
namespace Go.Proofs.YtgfmljfjgohdcaaGreatDoor
open Go.RowKit Go.Proofs.Tryz
section
attribute [local go_sem] Qls Qkr Qj4 Qig ByteArray.mk_append_mk
def Xw(v u:J0):Bool:=Eo (Bn v.1 v.2) (Bn u.1 u.2)
def Dq(vs:List J0)(i:Nat):J0:=vs.getD i ([],[])
theorem Kf{vs:List J0}{i:Nat}(h:i<vs.length):Dq vs i=vs[i]:=by simp[Dq,h]
def Ms(vs:List J0):Bool:=decide (vs.length<=5) && (List.range vs.length).all fun i=>(List.range (i+1)).all fun k=>Xw (Dq vs i) (Dq vs k)
theorem J1{vs:List J0}:Ms vs=true↔vs.length<=5/\∀i,i<vs.length->∀k,k<=i->Xw (Dq vs i) (Dq vs k)=true:=by
 unfold Ms;simp only[au,decide_eq_true_eq,List.all_eq_true,List.mem_range];exact⟨fun⟨h1,h2⟩=>⟨h1,fun i hi k hk=>h2 i hi k aF⟩,fun⟨h1,h2⟩=>⟨h1,fun i hi k hk=>h2 i hi k aF⟩⟩
theorem T7{vs:List J0}{i k:Nat}(hi:i<vs.length)(hk:k<=i)(h:Xw (Dq vs i) (Dq vs k)=false):Ms vs=false:=by
 rw[Bool.eq_false_iff];intro h2;rw[(J1.1 h2).2 i hi k hk]at h;cases h
theorem Qgh{v:J0}(h:(Bn v.1 v.2).isSome=true):Xw v v=true:=by
 unfold Xw;cases hb:Bn v.1 v.2 with
 |none=>rw[hb]at h;cases h
 |some x=>
  obtain⟨S,k⟩:=x;obtain⟨h1,_,_,_,_,h2⟩:=Fq hb;exact Qbl h1 h2
theorem Qkm{v:J0}(u:J0)(h:(Bn v.1 v.2).isSome=false):Xw v u=false:=by
 unfold Xw;cases hb:Bn v.1 v.2 with
 |none=>rfl
 |some x=>rw[hb]at h;cases h
theorem Zz(v u:J0)(w:World)(h1:v.1.length<=4000000)(h2:v.2.length<=4000000)(h3:u.1.length<=4000000)(h4:u.2.length<=4000000):
  Calls prog 181 #[.agg #[v.1,v.2],.agg #[u.1,u.2]] w fun e w'=>e=.returned (.bool (Xw v u))/\Below w w w':=by
 have He:=Aa (fun W=>Qbu v.1 v.2 u.1 u.2 W h1 h2 h3 h4);have Hrd:Hid (Xw v u=Eo (Bn v.1 v.2) (Bn u.1 u.2)):=rfl;generalize Eo (Bn v.1 v.2) (Bn u.1 u.2)=r at *;go_enter func181,ntmps181;go_wp2_with fail;refine(He.o _).mono ?_;rintro e w1 ⟨rfl,hb1⟩;go_wp2_with fail;go_ret;exact⟨by rw[Hrd.o];rfl,(((Ar w.heap.size w).alloc (Am _) _).alloc aH _).trans (hb1.mono aL)⟩
theorem Qdr(v:Value)(vs:List J0)(w:World)(h:Fi w v vs)(hn:vs.length<=1048577)(hl:∀x∈vs,x.1.length<=4000000/\x.2.length<=4000000):
  Calls prog 122 #[.agg #[v]] w fun e w'=>e=.returned (.bool (Ms vs))/\Below w w w':=by
 obtain⟨A,c,rfl,hcap,hvm,hr⟩:=h;have Hr:=Aa hr;have Hl:=Aa hl;clear hr hl;go_enter func122,ntmps122;go_wp2_with fail;go_loopw [3] (fun i wr=>∃k:Nat,i=.int .i64 k/\k<=vs.length/\Hid (∀i',i'<k->∀k',k'<=i'->Xw (Dq vs i') (Dq vs k')=true)/\Hid (Below w w wr)/\w.heap.size<wr.heap.size/\wr.cell? (w,0)=some (.slice A vs.length c)) (fun i _=>vs.length - (intOf i).toNat)
 case atStart=>exact⟨0,rfl,ae _,fun i' hi'=>by omega,(Ar _ _).alloc (Am _) _,by simp,by simp⟩
 case round=>
  obtain⟨i,rfl,hi,hin,hb,hsz,hc0⟩:=hrel;have i1:(0:Int)<=(i:Int):=aF;by_cases hlt:i<vs.length
  ·have i2:(i:Int)<(vs.length:Int):=aF;obtain⟨wo,hwo⟩:∃wo:World,wo=wr:=⟨_,rfl⟩
   have Hsz:=Aa hsz;have Hc0:=Aa hc0;go_wp2_with fail;subst hwo;go_loopw [4] (fun q wr=>∃k:Nat,q=.int .i64 k/\k<=i+1/\Hid (∀k',k'<k->Xw (Dq vs i) (Dq vs k')=true)/\Hid (Below w w wr)/\w.heap.size<wr.heap.size/\wr.cell? (w,0)=some (.slice A vs.length c)) (fun q _=>i+1 - (intOf q).toNat)
   case atStart=>exact⟨0,rfl,ae _,fun k' hk'=>by omega,hb.o,Hsz.o,Hc0.o⟩
   case round=>
    clear hc0 hsz;obtain⟨k,rfl,hk,hkin,hb',hsz',hc0'⟩:=hrel;have k1:(0:Int)<=(k:Int):=aF;by_cases hkl:k<=i
    ·have k2:(k:Int)<=(i:Int):=aF;have k3:(k:Int)<(vs.length:Int):=aF;obtain⟨b1,o1,rfl,hbl1,x0,x1⟩:=Fi.at_ (Hr.o.below hb'.out) hlt;obtain⟨b1',o1',e1,_,y0,y1⟩:=Fi.at_ (Hr.o.below hb'.out) (show k<vs.length by omega);obtain⟨rfl,rfl⟩:b1=b1'/\o1=o1':=dV;have hxl:=Hl.o _ (ac hlt);have hyl:=Hl.o _ (ac (show k<vs.length by omega));have hrd:Xw (Dq vs i) (Dq vs k)=Xw vs[i] (vs[k]' aF):=by rw[Kf hlt,Kf aF]
     generalize vs[i]=x at x0 x1 hxl hrd;generalize vs[k]'(show k<vs.length by omega)=y at y0 y1 hyl hrd;have Hrd:=Aa (fun W=>Zz x y W hxl.1 hxl.2 hyl.1 hyl.2);have Hrx:=Aa hrd;generalize Xw x y=r at Hrd Hrx;have C0:=Aa x0;have C1:=Aa x1;have D0:=Aa y0;have D1:=Aa y1;have L1:=Aa hbl1;have Lw:=Aa hsz';have T0:=Aa hc0';clear x0 x1 y0 y1 hbl1 hxl hyl hrd e1 hc0';go_wp2_with fail;refine M0 [17,18,19,20,21,22,23,24,25,26,27,28]
      (fun ix v W=>match ix with|0=>v=w.heap.size|1=>v=.slice (some ⟨b1,o1,none⟩) vs.length c|2=>v=.int .i64 i|3=>v=.pointer (some ⟨b1,o1+i*2,none⟩)|4=>v=.agg #[x.1,x.2]|5=>v=w.heap.size|6=>v=.slice (some ⟨b1,o1,none⟩) vs.length c|7=>v=.int .i64 k|8=>v=.pointer (some ⟨b1,o1+k*2,none⟩)|9=>v=.agg #[y.1,y.2]|10=>v=.bool r|11=>v=.bool (!r)|_=>True)
      (fun L U W=>Below wr wr W) ((Ar _ _).drew) ?_ ?_
     ·repeat (first|exact Ap.nil|(refine Ap.cons ?_ ?_;rotate_left))
      all_goals
       rintro L U W hL hpre HR Hdep K hK;have hB:=HR.o;have t0:W.cell? (w,0)=some (.slice (some ⟨b1,o1,none⟩) vs.length c):=(hB.cell (p:=⟨w.heap.size,0,none⟩) Lw.o).trans T0.o;have a0:W.cell? ⟨b1,o1+i*2,none⟩=x.1:=(hB.cell (p:=⟨b1,o1+i*2,none⟩) L1.o).trans C0.o;have a1:W.cell? ⟨b1,o1+i*2+1,none⟩=x.2:=(hB.cell (p:=⟨b1,o1+i*2+1,none⟩) L1.o).trans C1.o;have d0:W.cell? ⟨b1,o1+k*2,none⟩=y.1:=(hB.cell (p:=⟨b1,o1+k*2,none⟩) L1.o).trans D0.o;have d1:W.cell? ⟨b1,o1+k*2+1,none⟩=y.2:=(hB.cell (p:=⟨b1,o1+k*2+1,none⟩) L1.o).trans D1.o;first|(simp[Region.binds]at hpre;done)|simp[Region.binds]at hpre|clear hpre
      iterate 10
       ·exact fD
      ·go_simp;refine(Hrd.o W).mono ?_;rintro e w5 ⟨rfl,hb5⟩;exact iG
      ·exact fD
     rintro L U W hL hφ hR;have e11:U 11=.bool (!r):=hφ 11 aI;simp only[e11];clear hφ;have Hbw:=Aa (hb'.out.trans (hR.mono hb'.out.size));have hz2:w.heap.size<W.heap.size:=a8 hsz' hR.size;have T2:=Aa ((hR.cell (p:=⟨w.heap.size,0,none⟩) Lw.o).trans T0.o);clear hL hR;cases r with
     |false=>
      have Hno:=Aa (T7 hlt hkl Hrx.o);go_wp2_with fail;go_ret;exact⟨by rw[Hno.o];rfl,Hbw.o⟩
     |true=>
      have Hall:=Aa (show ∀k',k'<k+1->Xw (Dq vs i) (Dq vs k')=true from fun k' hk'=>by
       rcases aE k' k with h|h
       ·exact hkin.o k' h
       obtain rfl:k'=k:=aF;exact Hrx.o)
      go_wp2_with fail;go_roundw
      case rel=>exact⟨k+1,by go_num,by omega,Hall.o,Hbw.o,hz2,T2.o⟩
      case measure=>simp[intOf];omega
    ·have k2:¬(k:Int)<=(i:Int):=aF
     have Hall:=Aa (show ∀i',i'<i+1->∀k',k'<=i'->Xw (Dq vs i') (Dq vs k')=true from fun i' hi' k' hk'=>by
      rcases aE i' i with h|h
      ·exact hin.o i' h k' hk'
      obtain rfl:i'=i:=aF;exact hkin.o k' aF)
     have Hc':=Aa hc0';clear hc0';go_wp2_with fail;go_roundw
     case rel=>exact⟨i+1,by go_num,by omega,Hall.o,hb'.out,hsz',Hc'.out⟩
     case measure=>simp[intOf];omega
  ·obtain rfl:i=vs.length:=aF
   have Hfin:=Aa (show Ms vs=decide (vs.length<=5)from by
    by_cases h5:vs.length<=5
    ·rw[aB h5];exact J1.2 ⟨h5,hin.o⟩
    rw[aA h5,Bool.eq_false_iff];exact fun h=>h5 (J1.1 h).1)
   by_cases h5:vs.length<=5
   ·have h5i:(vs.length:Int)<=5:=aF;have Hf2:=Aa (Hfin.o.trans (aB h5));go_wp2_with fail;go_ret;exact⟨by rw[Hf2.o];rfl,hb.o⟩
   have h5i:¬(vs.length:Int)<=5:=aF;have Hf2:=Aa (Hfin.o.trans (aA h5));go_wp2_with fail;go_ret;exact⟨by rw[Hf2.o];rfl,hb.o⟩
theorem Vx(v1 v2:Value)(vs:List J0)(w:World)(h1:Fi w v1 vs)(h2:Fi w v2 vs):
  Calls prog 79 #[v1,v2] w fun e w'=>e=.returned (.bool true)/\Below w w w':=by
 obtain⟨A1,c1,rfl,hcap1,hvm,hr1⟩:=h1;obtain⟨A2,c2,rfl,hcap2,_,hr2⟩:=h2;have Hr1:=Aa hr1;have Hr2:=Aa hr2;have hlen:=hvm;unfold maxLen at hlen;have t0:((vs.length:Int) != (vs.length:Int))=false:=aH;clear hr1 hr2;go_enter func79,ntmps79;go_wp2_with fail;go_loopw [5] (fun i wr=>∃k:Nat,i=.int .i64 k/\k<=vs.length/\Hid (Below w w wr)) (fun i _=>vs.length - (intOf i).toNat)
 case atStart=>exact⟨0,rfl,ae _,Ar _ _⟩
 case round=>
  obtain⟨k,rfl,hk,hb⟩:=hrel;have k1:(0:Int)<=(k:Int):=aF;by_cases hlt:k<vs.length
  ·have k2:(k:Int)<(vs.length:Int):=aF;obtain⟨b1,o1,rfl,hbl1,x0,x1⟩:=Fi.at_ (Hr1.o.below hb.o) hlt;obtain⟨b2,o2,rfl,hbl2,y0,y1⟩:=Fi.at_ (Hr2.o.below hb.o) hlt;generalize vs[k]=x at x0 x1 y0 y1;have C0:=Aa x0;have C1:=Aa x1;have D0:=Aa y0;have D1:=Aa y1;have L1:=Aa hbl1;have L2:=Aa hbl2;clear x0 x1 y0 y1 hbl1 hbl2;go_wp2_with fail;refine M0 [17,18,19,20,21,22,23,24,25,26]
    (fun ix v W=>match ix with|0=>v=.slice (some ⟨b1,o1,none⟩) vs.length c1|1=>v=.int .i64 k|2=>v=.pointer (some ⟨b1,o1+k*2,none⟩)|3=>v=.agg #[x.1,x.2]|4=>v=.slice (some ⟨b2,o2,none⟩) vs.length c2|5=>v=.int .i64 k|6=>v=.pointer (some ⟨b2,o2+k*2,none⟩)|7=>v=.agg #[x.1,x.2]|8=>v=.bool true|9=>v=.bool false|_=>True)
    (fun L U W=>Below wr wr W) ((Ar _ _).drew) ?_ ?_
   ·repeat (first|exact Ap.nil|(refine Ap.cons ?_ ?_;rotate_left))
    all_goals
     rintro L U W hL hpre HR Hdep K hK;have hB:=HR.o;have a0:W.cell? ⟨b1,o1+k*2,none⟩=x.1:=(hB.cell (p:=⟨b1,o1+k*2,none⟩) L1.o).trans C0.o;have a1:W.cell? ⟨b1,o1+k*2+1,none⟩=x.2:=(hB.cell (p:=⟨b1,o1+k*2+1,none⟩) L1.o).trans C1.o;have d0:W.cell? ⟨b2,o2+k*2,none⟩=x.1:=(hB.cell (p:=⟨b2,o2+k*2,none⟩) L2.o).trans D0.o;have d1:W.cell? ⟨b2,o2+k*2+1,none⟩=x.2:=(hB.cell (p:=⟨b2,o2+k*2+1,none⟩) L2.o).trans D1.o;first|(simp[Region.binds]at hpre;done)|simp[Region.binds]at hpre|clear hpre
    iterate 8
     ·exact fD
    ·go_simp;refine(Xi x.1 x.2 W).mono ?_;rintro e w5 ⟨rfl,hb5⟩;exact iG
    ·exact fD
   rintro L U W hL hφ hR;have e9:U 9=.bool false:=hφ 9 aI;simp only[e9];clear hφ;have Hbw:=Aa (hb.o.trans (hR.mono hb.o.size));clear hL hR;go_wp2_with fail;go_roundw
   case rel=>exact⟨k+1,by go_num,by omega,Hbw.o⟩
   case measure=>simp[intOf];omega
  ·obtain rfl:k=vs.length:=aF;go_wp2_with fail;go_ret;exact⟨rfl,hb.o⟩
theorem Va(v1 v2:Value)(vs:List J0)(w:World)(h1:Fi w v1 vs)(h2:Fi w v2 vs):
  Calls prog 31 #[.agg #[v1],.agg #[v2]] w fun e w'=>e=.returned (.bool true)/\Below w w w':=by
 have H1:=Aa h1;have H2:=Aa h2;obtain⟨A1,c1,rfl,_⟩:=h1;obtain⟨A2,c2,rfl,_⟩:=h2;go_enter func31,ntmps31;go_wp2_with fail;refine(Vx _ _ vs _ (H1.o.below (((Ar _ _).alloc (Am _) _).alloc aH _)) (H2.o.below (((Ar _ _).alloc (Am _) _).alloc aH _))).mono ?_;rintro e w1 ⟨rfl,hb1⟩;have Hb1:=Aa ((((Ar w.heap.size w).alloc (Am _) _).alloc aH _).trans (hb1.mono aL));clear hb1;go_wp2_with fail;exact iF
section
variable {P:Program}
end
theorem Xp(a b:List (List UInt8)):Bz (a++b)=Bz a++Bz b:=by simp[Bz]
end
end Go.Proofs.YtgfmljfjgohdcaaGreatDoor
