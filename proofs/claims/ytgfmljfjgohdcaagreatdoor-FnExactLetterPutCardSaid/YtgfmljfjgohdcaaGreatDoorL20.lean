/- Texts joined. Conditions: as each theorem names them. -/
import Derived.Test.YtgfmljfjgohdcaaGreatDoorL19
set_option maxRecDepth 100000
set_option maxHeartbeats 32000000
set_option linter.unusedVariables false
set_option linter.unusedSimpArgs false
namespace Go.Proofs.YtgfmljfjgohdcaaGreatDoor
open Go.RowKit Go.Proofs.Tryz
def Bn(s d:List UInt8):Option (List Ty × Kd):=
 match Cf s with
 |none=>none
 |some S=>match Cm d with
  |none=>none
  |some k=>if Bq S k then some (S,k)else none
theorem Qcj{s d:List UInt8}{S:List Ty}{k:Kd}(h:Bn s d=some (S,k)):Cf s=some S/\Cm d=some k/\Bq S k:=by
 unfold Bn at h;cases h1:Cf s with
 |none=>rw[h1]at h;cases h
 |some T=>cases h2:Cm d with
  |none=>rw[h1,h2]at h;cases h
  |some q=>
   rw[h1,h2]at h;simp only at h;split at h
   ·rename_i hr;simp only[ah,aC]at h;obtain⟨rfl,rfl⟩:=h;exact⟨rfl,rfl,hr⟩
   cases h
theorem Fq{s d:List UInt8}{S:List Ty}{k:Kd}(h:Bn s d=some (S,k)):Jv S/\s.length<=400/\scB S=s/\Cs k/\Be k=d/\Bq S k:=by
 obtain⟨h1,h2,h3⟩:=Qcj h;obtain⟨a1,a2,a3⟩:=Qx.1 h1;obtain⟨b1,b2⟩:=Ek.1 h2;exact⟨a1,a2,a3,b1,b2,h3⟩
section
attribute [local go_sem] Qls Qkr Qj4 Qig ByteArray.mk_append_mk
theorem Qft(s:List UInt8)(w:World)(h4:s.length<=400)(h9:¬9<(Ai 10 s).length)(hlast:(Ai 10 s).getLast?=some []):
  Calls prog 106 #[s] w (Jb (Cf s) w):=by
 have HL:=Aa (Qen h9 hlast);have Hcut:=Aa (fun W=>Cl s 10 10 rfl W aF);have hne:=D8 10 s;have Hpl:=Aa (Ak 10 s);generalize Ai 10 s=L at h9 hlast HL Hcut hne Hpl;go_enter func106,ntmps106;go_wp2_with fail;refine(Hcut.o _).mono ?_;rintro e w1 ⟨v,rfl,ho,hb⟩;obtain⟨g,c,rfl,hg1,hg2,hcells⟩:=Mn ho hne;have hpos:0<L.length:=List.length_pos_iff.2 hne;have Hb:=Aa hb;have Hcells:=Aa hcells;have hz1:=hb.size;have k1:(0:Int)<=(L.length:Int) - 1:=aF;have k2:(L.length:Int) - 1<(L.length:Int):=aF;have k3:((L.length:Int) - 1).toNat=L.length - 1:=aF;have q1:¬(400:Int)<(s.length:Int):=aF;have q2:¬(9:Int)<(L.length:Int):=aF;have cl:=hcells (L.length - 1) aF;have he:L[L.length - 1]=[]:=by
  rw[List.getLast?_eq_getElem?,List.getElem?_eq_getElem aF]at hlast;simpa using hlast
 rw[he]at cl;have hDl:L.dropLast.length=L.length - 1:=aH;clear he hlast hcells ho hb hne;go_wp2_with fail
 go_loopw [5,6] (fun v i wr=>∃(xs:List (Ty × Value)),i=.int .i64 (xs.length:Nat)/\xs.length+1<=L.length/\Hid (Ey L.dropLast=(Ey (L.dropLast.drop xs.length)).map (Af xs ++ ·)) /\
   Hid (wr.ownsRow w1 153 3 v xs.length (xs.flatMap stc))/\Hid (Kj wr w1.heap.size xs)/\Hid (Below w1 w1 wr)/\w1.heap.size<=wr.heap.size) (fun _ i _=>L.length - (intOf i).toNat)
 case atStart=>exact⟨[],rfl,by simp;omega,by simp[Hid,Af],World.ownsRow_lit (base:=w1.heap.size) (e:=153) (size:=3) w1 #[] 0 (Am _) (ae _) rfl,by intro x hx;simp at hx,(Ar _ _).alloc (Am _) _,by simp⟩
 case round=>
  obtain⟨xs,rfl,hxl,hty,hown,htys,hbr,hszr⟩:=hrel;obtain⟨A,cA,rfl,hrA⟩:=Cd.ownK hown.o aY;have HrA:=Aa hrA;have HbW:=Aa (Hb.o.trans (hbr.o.mono hz1));clear hrA;by_cases hlt:xs.length+1<L.length
  ·have j1:(xs.length:Int)+1<(L.length:Int):=aF;have j2:(0:Int)<=(xs.length:Int):=aF;have j3:(xs.length:Int)<(L.length:Int):=aF;have cell:_:=(hbr.o.cell (p:=⟨g,xs.length,none⟩) hg2).trans (Hcells.o xs.length aF);have hstep:=Qb2 (L:=L.dropLast) (k:=xs.length) aF hty.o;have hge:L.dropLast[xs.length]' aF=L[xs.length]:=aH;rw[hge]at hstep;have hpl:=Hpl.o _ (ac (show xs.length<L.length by omega));have Hstep:=Aa hstep;generalize L[xs.length]=p at cell Hstep hpl;have Hread:=Aa (fun W=>Xs p W aF);have Htok:=Aa (fun t (h:C7 p=some t)=>(Ex.1 ((Qbc p).symm.trans h)).1);generalize C7 p=o at Hstep Hread Htok;clear hstep hge hty;go_wp2_with fail;refine(Hread.o _).mono ?_;rintro e w4 ⟨hcase,hb4⟩;have HbW4:=Aa (HbW.o.trans (hb4.mono HbW.o.size));cases o with
   |none=>
    obtain⟨x,a,A2,n2,c2,rfl⟩:=hcase;have Hno:=@Aa (Cf s=none) (Jj (.inr (HL.o.trans Hstep.o)));clear hb4;go_wp2_with fail;refine aD (v:=.tuple #[.slice none 0 0,.bool false]) (by simp[results,results106,go_sem]) rfl ?_;exact Jb.no Hno.o rfl (by(repeat (first|exact HbW4.o|refine Below.setCell ?_ dJ _|refine Below.alloc ?_ dJ _|refine Below.drew ?_)))
   |some t=>
    obtain⟨fv,rfl,hfv⟩:=hcase;have htk:=Htok.o t rfl;have h8:=htk.2.2.2.1;obtain⟨A2,c2,rfl,_⟩:=Cd.ownK hfv aY;have Hstep2:=@Aa (Ey L.dropLast=(Ey (L.dropLast.drop (xs.length+1))).map ((Af xs++[t]) ++ ·)) Hstep.o;have Hw5:=Aa ((Co hown.o hb4).alloc (.cells #[.int .u8 (t.sort.toNat:Int),t.name,.slice A2 t.fields.length c2] 153));have Hbb:=@Aa (Below w1 w1 (w4.alloc (.cells #[.int .u8 (t.sort.toNat:Int),t.name,.slice A2 t.fields.length c2] 153))) ((hbr.o.trans (hb4.mono hszr)).alloc (aa hszr hb4.size) _)
    have Hty5:=Aa (show Kj (w4.alloc (.cells #[.int .u8 (t.sort.toNat:Int),t.name,.slice A2 t.fields.length c2] 153)) w1.heap.size (xs++[(t,.slice A2 t.fields.length c2)])from by
     intro x hx;rcases ad.1 hx with hx|hx
     ·exact⟨(Co ((htys.o x hx).1) hb4).alloc _,(htys.o x hx).2⟩
     simp at hx;subst hx;exact⟨(Q7 hfv hszr).alloc _,htk⟩)
    have hz5:w1.heap.size<=w4.heap.size+1:=by have:=hb4.size;omega
    have Hsz5:=@Aa ((w4.alloc (.cells #[.int .u8 (t.sort.toNat:Int),t.name,.slice A2 t.fields.length c2] 153)).heap.size=w4.heap.size+1) aH;clear hfv htk hb4;unfold Kp;go_wp2_with (at_builtin;go_loud (refine Qcb _ rfl _ _ 80 rfl w1 153 (.agg #[.int .u8 0,a6,.slice none 0 0]) 3 48 underlying80 Tryz.infoSt rfl aI (w4.alloc (.cells #[.int .u8 (t.sort.toNat:Int),t.name,.slice A2 t.fields.length c2] 153)) [.int .u8 (t.sort.toNat:Int),t.name,.slice A2 t.fields.length c2] rfl rfl bJ _ xs.length (xs.flatMap stc) rfl (by rw[Hsz5.o];rfl) Hw5.o aY aF aL ?_;intro v5 w5 hown5 hb5 hg5;have Hty6:=Aa ((Hty5.o.below ((Ar _ _).alloc (Am _) _)).grown (Hw5.o.alloc _) aI hg5);have Hown5:=Aa hown5;have Hb5:=Aa (Hbb.o.trans hb5);clear hown5 hb5 hg5))
    go_roundw
    case rel=>
     refine⟨xs++[(t,Value.slice A2 t.fields.length c2)],by rw[af];go_num,by simp;omega,?_,?_,?_,Hb5.o,Hb5.o.size⟩
     ·show Ey L.dropLast=_;rw[Hstep2.o];simp[Af]
     ·show World.ownsRow _ _ _ _ _ _ _;rw[List.flatMap_append,af];exact Hown5.o
     ·exact Hty6.o
    case measure=>simp[intOf];omega
  ·have j1:¬(xs.length:Int)+1<(L.length:Int):=aF
   have Hlin:=Aa (show M5 s=some (Af xs)by
    rw[HL.o,hty.o,List.drop_of_length_le aF];simp[Ey])
   have Hval:=Aa (fun(_:Unit)=>Qdj (.slice A xs.length cA) xs wr (Jt.own hown.o aF htys.o) (fun x hx=>(htys.o x hx).2));have Hs:=Aa (Jt.own hown.o aF htys.o);clear hty;go_wp2_with fail;refine(Hval.o ()).mono ?_;rintro e w4 ⟨⟨b,rfl,hbv⟩,hb4⟩;have Hfin:=Aa (Xo h4 Hlin.o b hbv);have HbW4:=Aa (HbW.o.trans (hb4.mono HbW.o.size));have Hs4:=Aa (Hs.o.below hb4);clear hb4 hbv;cases b with
   |true=>
    go_wp2_with fail;refine aD (v:=.tuple #[.slice A xs.length cA,.bool true]) (by simp[results,results106,go_sem]) rfl ?_;exact Jb.yes (xs:=xs) Hfin.o rfl Hs4.o HbW4.o
   |false=>
    go_wp2_with fail;refine aD (v:=.tuple #[.slice A xs.length cA,.bool false]) (by simp[results,results106,go_sem]) rfl ?_;exact Jb.no Hfin.o rfl HbW4.o
theorem Y8(s:List UInt8)(w:World)(hs:s.length<=4000000):
  Calls prog 106 #[s] w (Jb (Cf s) w):=by
 by_cases h1:400<s.length
 ·exact Rk s w hs (.inl h1)
 by_cases h2:9<(Ai 10 s).length
 ·exact Rk s w hs (.inr (.inl h2))
 by_cases h3:(Ai 10 s).getLast?=some []
 ·exact Qft s w aF h2 h3
 exact Rk s w hs (.inr (.inr h3))
def Gt(o:Option (List Ty × Kd))(w:World)(e:Ending)(w':World):Prop:=
 (match o with
  |some x=>∃v xs,e=.returned (.tuple #[v,.bool true])/\Af xs=x.1/\Jt w' v xs
  |none=>∃A n c,e=.returned (.tuple #[.slice A n c,.bool false]))/\Below w w w'
theorem Gt.no{w w':World}{e:Ending}{o:Option (List Ty × Kd)}(ho:o=none){A:Option Addr}{n c:Nat}(he:e=.returned (.tuple #[.slice A n c,.bool false]))(hb:Below w w w'):Gt o w e w':=by
 rw[ho];exact⟨⟨A,n,c,he⟩,hb⟩
theorem Xh(s d:List UInt8)(w:World)(hs:s.length<=4000000)(h:Cf s=none):
  Calls prog 53 #[s,d] w (Gt (Bn s d) w):=by
 have HF:=Aa (show Bn s d=none by unfold Bn;rw[h]);have Hof:=Aa (fun W=>Y8 s W hs);rw[h]at Hof;clear h;go_enter func53,ntmps53;go_wp2_with fail;refine(Hof.o _).mono ?_;rintro e w1 ⟨⟨A,n,c,rfl⟩,hb⟩;go_wp2_with fail;refine aD (v:=.tuple #[.slice none 0 0,.bool false]) (by simp[results,results53,go_sem]) rfl ?_;exact Gt.no HF.o rfl hb
theorem Zg(s d:List UInt8)(w:World)(hs:s.length<=4000000)(hd:d.length<=4000000)(S:List Ty)(h:Cf s=some S)(hk:Cm d=none):
  Calls prog 53 #[s,d] w (Gt (Bn s d) w):=by
 have HF:=Aa (show Bn s d=none by unfold Bn;rw[h,hk]);have Hof:=Aa (fun W=>Y8 s W hs);have Hkd:=Aa (fun W=>Nc d.length d W (Am _) aF);rw[h]at Hof;rw[hk]at Hkd;clear h hk;go_enter func53,ntmps53;go_wp2_with fail;refine(Hof.o _).mono ?_;rintro e w1 ⟨⟨v,xs,rfl,hx,hsc⟩,hb⟩;clear hsc;go_wp2_with fail;refine(Hkd.o _).mono ?_;rintro e w2 ⟨rfl,rfl⟩;go_wp2_with fail;refine aD (v:=.tuple #[.slice none 0 0,.bool false]) (by simp[results,results53,go_sem]) rfl ?_;exact Gt.no HF.o rfl hb
theorem Gt.of{w w':World}{e:Ending}{S:List Ty}{k:Kd}{v:Value}{xs:List (Ty × Value)}{b:Bool}{o:Option (List Ty × Kd)}(ho:o=if b=true then some (S,k)else none)(he:e=.returned (.tuple #[v,.bool b]))(hx:Af xs=S)(hs:Jt w' v xs)(hb:Below w w w'):Gt o w e w':=by
 cases b with
 |true=>rw[ho];exact⟨⟨v,xs,he,hx,hs⟩,hb⟩
 |false=>
  obtain⟨A,c,rfl,_⟩:=hs;rw[ho];exact⟨⟨A,_,c,he⟩,hb⟩
theorem Qfi(s d:List UInt8)(w:World)(hs:s.length<=4000000)(S:List Ty)(h:Cf s=some S)(k:Kd)(hk:Cm d=some k):
  Calls prog 53 #[s,d] w (Gt (Bn s d) w):=by
 obtain⟨hok,rfl⟩:=Ek.1 hk;have HF:=Aa (show Bn s (Be k)=if Bq S k then some (S,k)else none by unfold Bn;rw[h,hk]);have Hof:=Aa (fun W=>Y8 s W hs);have hl:=hok.2.2;have Hkd:=Aa (fun W=>Nc (Be k).length (Be k) W (Am _) aF);have Hok:=Aa hok;rw[h]at Hof;rw[hk]at Hkd;clear h hk hok;go_enter func53,ntmps53;go_wp2_with fail;refine(Hof.o _).mono ?_;rintro e w1 ⟨⟨v,xs,rfl,hx,hsc⟩,hb⟩;subst hx;have Hsc:=Aa hsc;obtain⟨A,c,rfl,_,_,hfds⟩:=hsc;have Hfds:=Aa hfds;have Hb:=Aa hb;clear hb hfds;go_wp2_with fail;refine(Hkd.o _).mono ?_;rintro e w2 ⟨rfl,rfl⟩;go_wp2_with fail;refine(Ku k Hok.o _).mono ?_;rintro e w2 ⟨rfl,rfl⟩;go_wp2_with fail;refine(Px k Hok.o _).mono ?_;rintro e w2 ⟨rfl,rfl⟩;go_wp2_with fail;refine(Rm _ xs (So k) _ Hsc.o).mono ?_;rintro e w2 ⟨rfl,hb2⟩;have Hb2:=Aa (Hb.o.trans (hb2.mono Hb.o.size));have Hs2:=Aa (Hsc.o.below hb2);clear hb2;cases hx2:D5 xs (So k)with
 |none=>
  unfold Sd Nk;rcases hir:Sn k with _|_
  ·have Hr:=Aa (show (if Bq (Af xs) k then some (Af xs,k)else none)=if (true:Bool)=true then some (Af xs,k)else none by
    have:=Kk xs k;rw[hx2,hir]at this;simp at this;simp[this])
   go_wp2_with fail;refine aD (v:=.tuple #[.slice A xs.length c,.bool true]) (by simp[results,results53,go_sem]) rfl ?_;exact iC
  have Hr:=Aa (show (if Bq (Af xs) k then some (Af xs,k)else none)=if (false:Bool)=true then some (Af xs,k)else none by
   have:=Kk xs k;rw[hx2,hir]at this;simp at this;simp[this])
  go_wp2_with fail;refine aD (v:=.tuple #[.slice A xs.length c,.bool false]) (by simp[results,results53,go_sem]) rfl ?_;exact Gt.of (b:=false) (HF.o.trans Hr.o) rfl rfl (Hs2.o.below ((Ar _ _).alloc (Am _) _)) aU
 |some y=>
  obtain⟨ty,yv⟩:=y;obtain⟨A5,c5,e5,_⟩:=Hfds.o _ (Dr hx2).1;simp only[]at e5;subst e5;unfold Sd Kp;rcases hir:Sn k with _|_
  ·have Hr:=Aa (show (if Bq (Af xs) k then some (Af xs,k)else none)=if (true:Bool)=true then some (Af xs,k)else none by
    have:=Kk xs k;rw[hx2,hir]at this;simp at this;simp[this])
   go_wp2_with fail;refine aD (v:=.tuple #[.slice A xs.length c,.bool true]) (by simp[results,results53,go_sem]) rfl ?_;exact iC
  have Hr:=Aa (show (if Bq (Af xs) k then some (Af xs,k)else none)=if (true:Bool)=true then some (Af xs,k)else none by
   have:=Kk xs k;rw[hx2,hir]at this;simp at this;simp[this])
  go_wp2_with fail;refine aD (v:=.tuple #[.slice A xs.length c,.bool true]) (by simp[results,results53,go_sem]) rfl ?_;exact iC
theorem Sb(s d:List UInt8)(w:World)(hs:s.length<=4000000)(hd:d.length<=4000000):
  Calls prog 53 #[s,d] w (Gt (Bn s d) w):=by
 cases h:Cf s with
 |none=>exact Xh s d w hs h
 |some S=>cases hk:Cm d with
  |none=>exact Zg s d w hs hd S h hk
  |some k=>exact Qfi s d w hs S h k hk
theorem Qhi(w0:World)(v1 v2:Value)(xs ys:List (Ty × Value))(hx:Jt w0 v1 xs)(hy:Jt w0 v2 ys)(hS:Jv (Af xs))(hT:Jv (Af ys)):∀(n:Nat) (a b:Kd) (m:List Cr) (w:World) (mv:Value),
  Cs a->Cs b->Bq (Af xs) a->Bq (Af ys) b->Ks (Af xs) (Af ys) m->64<n+m.length->Fe w0 v1 v2 w m mv ->
   Calls prog 187 #[w0.heap.size,.string ⟨(Be a).toArray⟩,.string ⟨(Be b).toArray⟩] w (Vw w0 v1 v2 (H6 (Af xs) (Af ys) n a b m) w mv):=by
 have h8:(Af xs).length*(Af ys).length<=64:=by
  exact iD
 intro n;induction n with
 |zero=>
  intro a b m w mv _ _ _ _ hm hn _;have:=hm.len;omega
 |succ n ih=>
  intro a b m w mv ha hb hra hrb hm hn hst;have hml:m.length<=64:=aa hm.len h8;refine Qc1 w0 v1 v2 xs ys hx hy n a b m w mv ha hb hra hrb hml hst (fun t fv u gv W mv' htm hum hW h1 h2 hnin=>?_);have hm2:Ks (Af xs) (Af ys) (m++[(a.name,b.name)]):=hm.snoc (Jh.1 (by rw[h1];rfl)) (Jh.1 (by rw[h2];rfl)) hnin;exact Qcw w0 v1 v2 xs ys hx hy hS hT n t u fv gv htm hum (fun a' b' m' W' mv'' h1 h2 h3 h4 h5 h6 h7=>ih a' b' m' W' mv'' h1 h2 h3 h4 h5 h6 h7) _ hm2 aL W mv' hW
def Qkk(o1 o2:Option (List Ty × Kd))(w:World)(e:Ending)(w':World):Prop:=
 ∃v1 v2,e=.returned (.tuple #[v1,v2,.bool (Eo o1 o2)])/\Below w w w'/\(∃A n c,v1=.slice A n c)/\(∃A n c,v2=.slice A n c) /\
  (match o1,o2 with
  |some x,some y=>∃xs ys,Af xs=x.1/\Af ys=y.1/\Jt w' v1 xs/\Jt w' v2 ys
  |_,_=>True)
theorem Qdd(s1 d1 s2 d2:List UInt8)(w:World)(h1:s1.length<=4000000)(h2:d1.length<=4000000)(h3:s2.length<=4000000)(h4:d2.length<=4000000):
  Calls prog 131 #[s1,d1,s2,d2] w (Qkk (Bn s1 d1) (Bn s2 d2) w):=by
 have Hk1:=Aa (fun W=>Sb s1 d1 W h1 h2);have Hk2:=Aa (fun W=>Sb s2 d2 W h3 h4);have Hg1:=Aa (fun S k (h:Bn s1 d1=some (S,k))=>Fq h);have Hg2:=Aa (fun S k (h:Bn s2 d2=some (S,k))=>Fq h);generalize Bn s1 d1=o1 at *;generalize Bn s2 d2=o2 at *;go_enter func131,ntmps131;go_wp2_with fail;refine(Hk1.o _).mono ?_;rintro e w1 ⟨hc1,hb1⟩;have Hb1:=Aa hb1;clear hb1;cases o1 with
 |none=>
  obtain⟨A,n,c,rfl⟩:=hc1;go_wp2_with fail;refine(Hk2.o _).mono ?_;rintro e w2 ⟨hc2,hb2⟩;have Hb2:=Aa (Hb1.o.trans (hb2.mono Hb1.o.size));clear hb2;cases o2 with
  |none=>
   obtain⟨A2,n2,c2,rfl⟩:=hc2;go_wp2_with fail;refine aD (v:=.tuple #[.slice none 0 0,.slice none 0 0,.bool false]) (by simp[results,results131,go_sem]) rfl ?_;exact iE
  |some y=>
   obtain⟨v,ys,rfl,hys,hsc⟩:=hc2;clear hsc;go_wp2_with fail;refine aD (v:=.tuple #[.slice none 0 0,.slice none 0 0,.bool false]) (by simp[results,results131,go_sem]) rfl ?_;exact iE
 |some x=>
  obtain⟨S,k⟩:=x;obtain⟨v,xs,rfl,hxs,hsc⟩:=hc1;simp only at hxs;have Hxs:=Aa hxs;have Hsc:=Aa hsc;clear hsc hxs;go_wp2_with fail;refine(Hk2.o _).mono ?_;rintro e w2 ⟨hc2,hb2⟩;have Hsc2:=Aa (Hsc.o.below hb2);have Hb2:=Aa (Hb1.o.trans (hb2.mono Hb1.o.size));clear hb2;cases o2 with
  |none=>
   obtain⟨A2,n2,c2,rfl⟩:=hc2;go_wp2_with fail;refine aD (v:=.tuple #[.slice none 0 0,.slice none 0 0,.bool false]) (by simp[results,results131,go_sem]) rfl ?_;exact iE
  |some y=>
   obtain⟨T,k2⟩:=y;obtain⟨v2,ys,rfl,hys,hsc2⟩:=hc2;simp only at hys;have Hys:=Aa hys;have Hscy:=Aa hsc2;clear hsc2 hys;obtain⟨A1,c1,rfl,_⟩:=Hsc2.o;obtain⟨A2,c2,rfl,_⟩:=Hscy.o;obtain⟨hS,_,_,hk1,hd1,hr1⟩:=Hg1.o _ _ rfl;obtain⟨hT,_,_,hk2,hd2,hr2⟩:=Hg2.o _ _ rfl;have hfs:=Hxs.o;have hft:=Hys.o;subst hfs hft hd1 hd2;have Hask:=Aa (fun W (h:Fe w2 (.slice A1 xs.length c1) (.slice A2 ys.length c2) W [] (.slice none 0 0))=>Qhi w2 _ _ xs ys Hsc2.o Hscy.o hS hT 65 k k2 [] W _ hk1 hk2 hr1 hr2 (Ks.nil _ _) aH h);have Hev:Hid (Eo (some (Af xs,k)) (some (Af ys,k2))=(H6 (Af xs) (Af ys) 65 k k2 []).1):=rfl;generalize H6 (Af xs) (Af ys) 65 k k2 []=r at *;clear hS hT hk1 hk2 hr1 hr2;go_wp2_with fail;refine(Hask.o _ ?_).mono ?_
   ·refine⟨(Ar _ _).alloc (Am _) _,by simp,by simp,by simp,by simp,?_,World.ownsRow_nil _ _ _ _⟩;exact B9 w2 [.slice A1 xs.length c1,.slice A2 ys.length c2,.slice none 0 0] _
   rintro e w3 ⟨rfl,mv,hst,_⟩;have Hb3:=Aa hst.1;clear hst;go_wp2_with fail;refine aD (v:=.tuple #[.slice A1 xs.length c1,.slice A2 ys.length c2,.bool r.1]) (by simp[results,results131,go_sem]) rfl ?_;exact⟨_,_,by rw[Hev.o],Hb2.o.trans (Hb3.o.mono Hb2.o.size),⟨_,_,_,rfl⟩,⟨_,_,_,rfl⟩,⟨xs,ys,rfl,rfl,Hsc2.o.below Hb3.o,Hscy.o.below Hb3.o⟩⟩
theorem Qbu(s1 d1 s2 d2:List UInt8)(w:World)(h1:s1.length<=4000000)(h2:d1.length<=4000000)(h3:s2.length<=4000000)(h4:d2.length<=4000000):
  Calls prog 226 #[s1,d1,s2,d2] w fun e w'=>e=.returned (.bool (Eo (Bn s1 d1) (Bn s2 d2)))/\Below w w w':=by
 have Hr:=Aa (fun W=>Qdd s1 d1 s2 d2 W h1 h2 h3 h4);generalize Bn s1 d1=o1 at *;generalize Bn s2 d2=o2 at *;go_enter func226,ntmps226;go_wp2_with fail;refine(Hr.o _).mono ?_;rintro e w1 ⟨v1,v2,rfl,hb1,_,_,_⟩;have Hb1:=Aa hb1;clear hb1;go_wp2_with fail;exact iF
end
end Go.Proofs.YtgfmljfjgohdcaaGreatDoor
