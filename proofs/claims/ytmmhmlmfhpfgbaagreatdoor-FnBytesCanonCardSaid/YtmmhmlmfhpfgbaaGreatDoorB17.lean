/- Texts joined. Conditions: as each theorem names them. -/
import Derived.Sort.Walk0
import Derived.Deep.CutBlock
import Derived.Deep.CutRange
import Derived.Deep.DeepCutAuto
import Derived.Test.YtmmhmlmfhpfgbaaGreatDoorB15
import Derived.Test.YtmmhmlmfhpfgbaaGreatDoorB18
set_option maxRecDepth 100000
set_option maxHeartbeats 32000000
set_option linter.unusedVariables false
set_option linter.unusedSimpArgs false
namespace Go.Proofs.YtmmhmlmfhpfgbaaGreatDoor
open Go.RowKit Go.Proofs.Tryz
section
attribute [local go_sem] Qra Qpu Qo3 Qmi ByteArray.mk_append_mk
theorem Qif(s:List UInt8)(w:World)(h4:s.length<=400)(h9:¬9<(Aj 10 s).length)(hlast:(Aj 10 s).getLast?=some []):
  Calls prog 94 #[s] w (Ka (Ck s) w):=by
 have HL:=Aa (Qir h9 hlast);have Hcut:=Aa (fun W=>C4 s 10 10 rfl W aI);have hne:=Ex 10 s;have Hpl:=Aa (Ao 10 s);generalize Aj 10 s=L at h9 hlast HL Hcut hne Hpl;go_enter func94,ntmps94;go_wp2_with fail;refine(Hcut.o _).mono ?_;rintro e w1 ⟨v,rfl,ho,hb⟩;obtain⟨g,c,rfl,hg1,hg2,hcells⟩:=Nv ho hne;have hpos:0<L.length:=List.length_pos_iff.2 hne;have Hb:=Aa hb;have Hcells:=Aa hcells;have hz1:=hb.size;have k1:(0:Int)<=(L.length:Int) - 1:=aI;have k2:(L.length:Int) - 1<(L.length:Int):=aI;have k3:((L.length:Int) - 1).toNat=L.length - 1:=aI;have q1:¬(400:Int)<(s.length:Int):=aI;have q2:¬(9:Int)<(L.length:Int):=aI;have cl:=hcells (L.length - 1) aI;have he:L[L.length - 1]=[]:=by
  rw[List.getLast?_eq_getElem?,List.getElem?_eq_getElem aI]at hlast;simpa using hlast
 rw[he]at cl;have hDl:L.dropLast.length=L.length - 1:=aK;clear he hlast hcells ho hb hne;go_wp2_with fail
 go_loopw [5,6] (fun v i wr=>∃(xs:List (Ty × Value)),i=.int .i64 (xs.length:Nat)/\xs.length+1<=L.length/\Hid (Fv L.dropLast=(Fv (L.dropLast.drop xs.length)).map (Af xs ++ ·)) /\
   Hid (wr.ownsRow w1 143 3 v xs.length (xs.flatMap stc))/\Hid (Mk wr w1.heap.size xs)/\Hid (Below w1 w1 wr)/\w1.heap.size<=wr.heap.size) (fun _ i _=>L.length - (intOf i).toNat)
 case atStart=>exact⟨[],rfl,by simp;omega,by simp[Hid,Af],World.ownsRow_lit (base:=w1.heap.size) (e:=143) (size:=3) w1 #[] 0 (Al _) (ag _) rfl,by intro x hx;simp at hx,(Aq _ _).alloc (Al _) _,by simp⟩
 case round=>
  obtain⟨xs,rfl,hxl,hty,hown,htys,hbr,hszr⟩:=hrel;obtain⟨A,cA,rfl,hrA⟩:=Ca.ownK hown.o bc;have HrA:=Aa hrA;have HbW:=Aa (Hb.o.trans (hbr.o.mono hz1));clear hrA;by_cases hlt:xs.length+1<L.length
  ·have j1:(xs.length:Int)+1<(L.length:Int):=aI;have j2:(0:Int)<=(xs.length:Int):=aI;have j3:(xs.length:Int)<(L.length:Int):=aI;have cell:_:=(hbr.o.cell (p:=⟨g,xs.length,none⟩) hg2).trans (Hcells.o xs.length aI);have hstep:=Qef (L:=L.dropLast) (k:=xs.length) aI hty.o;have hge:L.dropLast[xs.length]' aI=L[xs.length]:=aK;rw[hge]at hstep;have hpl:=Hpl.o _ (ae (show xs.length<L.length by omega));have Hstep:=Aa hstep;generalize L[xs.length]=p at cell Hstep hpl;have Hread:=Aa (fun W=>Qa1 p W aI);have Htok:=Aa (fun t (h:Dt p=some t)=>(Ga.1 ((Qel p).symm.trans h)).1);generalize Dt p=o at Hstep Hread Htok;clear hstep hge hty;go_wp2_with fail;refine(Hread.o _).mono ?_;rintro e w4 ⟨hcase,hb4⟩;have HbW4:=Aa (HbW.o.trans (hb4.mono HbW.o.size));cases o with
   |none=>
    obtain⟨x,a,A2,n2,c2,rfl⟩:=hcase;have Hno:=@Aa (Ck s=none) (Ki (.inr (HL.o.trans Hstep.o)));clear hb4;go_wp2_with fail;refine aG (v:=.tuple #[.slice none 0 0,.bool false]) (by simp[results,results94,go_sem]) rfl ?_;exact Ka.no Hno.o rfl (by(repeat (first|exact HbW4.o|refine Below.setCell ?_ dR _|refine Below.alloc ?_ dR _|refine Below.drew ?_)))
   |some t=>
    obtain⟨fv,rfl,hfv⟩:=hcase;have htk:=Htok.o t rfl;have h8:=htk.2.2.2.1;obtain⟨A2,c2,rfl,_⟩:=Ca.ownK hfv bc;have Hstep2:=@Aa (Fv L.dropLast=(Fv (L.dropLast.drop (xs.length+1))).map ((Af xs++[t]) ++ ·)) Hstep.o;have Hw5:=Aa ((Cr hown.o hb4).alloc (.cells #[.int .u8 (t.sort.toNat:Int),t.name,.slice A2 t.fields.length c2] 143));have Hbb:=@Aa (Below w1 w1 (w4.alloc (.cells #[.int .u8 (t.sort.toNat:Int),t.name,.slice A2 t.fields.length c2] 143))) ((hbr.o.trans (hb4.mono hszr)).alloc (ad hszr hb4.size) _)
    have Hty5:=Aa (show Mk (w4.alloc (.cells #[.int .u8 (t.sort.toNat:Int),t.name,.slice A2 t.fields.length c2] 143)) w1.heap.size (xs++[(t,.slice A2 t.fields.length c2)])from by
     intro x hx;rcases af.1 hx with hx|hx
     ·exact⟨(Cr ((htys.o x hx).1) hb4).alloc _,(htys.o x hx).2⟩
     simp at hx;subst hx;exact⟨(Sr hfv hszr).alloc _,htk⟩)
    have hz5:w1.heap.size<=w4.heap.size+1:=by have:=hb4.size;omega
    have Hsz5:=@Aa ((w4.alloc (.cells #[.int .u8 (t.sort.toNat:Int),t.name,.slice A2 t.fields.length c2] 143)).heap.size=w4.heap.size+1) aK;clear hfv htk hb4;unfold Pu;go_wp2_with (at_builtin;go_loud (refine Qer _ rfl _ _ 73 rfl w1 143 (.agg #[.int .u8 0,a6,.slice none 0 0]) 3 48 underlying73 Tryz.infoSt rfl aL (w4.alloc (.cells #[.int .u8 (t.sort.toNat:Int),t.name,.slice A2 t.fields.length c2] 143)) [.int .u8 (t.sort.toNat:Int),t.name,.slice A2 t.fields.length c2] rfl rfl bL _ xs.length (xs.flatMap stc) rfl (by rw[Hsz5.o];rfl) Hw5.o bc aI aO ?_;intro v5 w5 hown5 hb5 hg5;have Hty6:=Aa ((Hty5.o.below ((Aq _ _).alloc (Al _) _)).grown (Hw5.o.alloc _) aL hg5);have Hown5:=Aa hown5;have Hb5:=Aa (Hbb.o.trans hb5);clear hown5 hb5 hg5))
    go_roundw
    case rel=>
     refine⟨xs++[(t,Value.slice A2 t.fields.length c2)],by rw[ah];go_num,by simp;omega,?_,?_,?_,Hb5.o,Hb5.o.size⟩
     ·show Fv L.dropLast=_;rw[Hstep2.o];simp[Af]
     ·show World.ownsRow _ _ _ _ _ _ _;rw[List.flatMap_append,ah];exact Hown5.o
     ·exact Hty6.o
    case measure=>simp[intOf];omega
  ·have j1:¬(xs.length:Int)+1<(L.length:Int):=aI
   have Hlin:=Aa (show Pc s=some (Af xs)by
    rw[HL.o,hty.o,List.drop_of_length_le aI];simp[Fv])
   have Hval:=Aa (fun(_:Unit)=>Qgx (.slice A xs.length cA) xs wr (Gj.own hown.o aI htys.o) (fun x hx=>(htys.o x hx).2));have Hs:=Aa (Gj.own hown.o aI htys.o);clear hty;go_wp2_with fail;refine(Hval.o ()).mono ?_;rintro e w4 ⟨⟨b,rfl,hbv⟩,hb4⟩;have Hfin:=Aa (Qa5 h4 Hlin.o b hbv);have HbW4:=Aa (HbW.o.trans (hb4.mono HbW.o.size));have Hs4:=Aa (Hs.o.below hb4);clear hb4 hbv;cases b with
   |true=>
    go_wp2_with fail;refine aG (v:=.tuple #[.slice A xs.length cA,.bool true]) (by simp[results,results94,go_sem]) rfl ?_;exact Ka.yes (xs:=xs) Hfin.o rfl Hs4.o HbW4.o
   |false=>
    go_wp2_with fail;refine aG (v:=.tuple #[.slice A xs.length cA,.bool false]) (by simp[results,results94,go_sem]) rfl ?_;exact Ka.no Hfin.o rfl HbW4.o
theorem Ym(s:List UInt8)(w:World)(hs:s.length<=4000000):
  Calls prog 94 #[s] w (Ka (Ck s) w):=by
 by_cases h1:400<s.length
 ·exact Vd s w hs (.inl h1)
 by_cases h2:9<(Aj 10 s).length
 ·exact Vd s w hs (.inr (.inl h2))
 by_cases h3:(Aj 10 s).getLast?=some []
 ·exact Qif s w aI h2 h3
 exact Vd s w hs (.inr (.inr h3))
def Jm(o:Option (List Ty × Kd))(w:World)(e:Ending)(w':World):Prop:=
 (match o with
  |some x=>∃v xs,e=.returned (.tuple #[v,.bool true])/\Af xs=x.1/\Gj w' v xs
  |none=>∃A n c,e=.returned (.tuple #[.slice A n c,.bool false]))/\Below w w w'
theorem Jm.no{w w':World}{e:Ending}{o:Option (List Ty × Kd)}(ho:o=none){A:Option Addr}{n c:Nat}(he:e=.returned (.tuple #[.slice A n c,.bool false]))(hb:Below w w w'):Jm o w e w':=by
 rw[ho];exact⟨⟨A,n,c,he⟩,hb⟩
theorem Yt(s d:List UInt8)(w:World)(hs:s.length<=4000000)(h:Ck s=none):
  Calls prog 45 #[s,d] w (Jm (Bq s d) w):=by
 have HF:=Aa (show Bq s d=none by unfold Bq;rw[h]);have Hof:=Aa (fun W=>Ym s W hs);rw[h]at Hof;clear h;go_enter func45,ntmps45;go_wp2_with fail;refine(Hof.o _).mono ?_;rintro e w1 ⟨⟨A,n,c,rfl⟩,hb⟩;go_wp2_with fail;refine aG (v:=.tuple #[.slice none 0 0,.bool false]) (by simp[results,results45,go_sem]) rfl ?_;exact Jm.no HF.o rfl hb
theorem Qc4(s d:List UInt8)(w:World)(hs:s.length<=4000000)(hd:d.length<=4000000)(S:List Ty)(h:Ck s=some S)(hk:C5 d=none):
  Calls prog 45 #[s,d] w (Jm (Bq s d) w):=by
 have HF:=Aa (show Bq s d=none by unfold Bq;rw[h,hk]);have Hof:=Aa (fun W=>Ym s W hs);have Hkd:=Aa (fun W=>N0 d.length d W (Al _) aI);rw[h]at Hof;rw[hk]at Hkd;clear h hk;go_enter func45,ntmps45;go_wp2_with fail;refine(Hof.o _).mono ?_;rintro e w1 ⟨⟨v,xs,rfl,hx,hsc⟩,hb⟩;clear hsc;go_wp2_with fail;refine(Hkd.o _).mono ?_;rintro e w2 ⟨rfl,rfl⟩;go_wp2_with fail;refine aG (v:=.tuple #[.slice none 0 0,.bool false]) (by simp[results,results45,go_sem]) rfl ?_;exact Jm.no HF.o rfl hb
theorem Jm.of{w w':World}{e:Ending}{S:List Ty}{k:Kd}{v:Value}{xs:List (Ty × Value)}{b:Bool}{o:Option (List Ty × Kd)}(ho:o=if b=true then some (S,k)else none)(he:e=.returned (.tuple #[v,.bool b]))(hx:Af xs=S)(hs:Gj w' v xs)(hb:Below w w w'):Jm o w e w':=by
 cases b with
 |true=>rw[ho];exact⟨⟨v,xs,he,hx,hs⟩,hb⟩
 |false=>
  obtain⟨A,c,rfl,_⟩:=hs;rw[ho];exact⟨⟨A,_,c,he⟩,hb⟩
theorem Qjw(s d:List UInt8)(w:World)(hs:s.length<=4000000)(S:List Ty)(h:Ck s=some S)(k:Kd)(hk:C5 d=some k):
  Calls prog 45 #[s,d] w (Jm (Bq s d) w):=by
 obtain⟨hok,rfl⟩:=Fm.1 hk;have HF:=Aa (show Bq s (Be k)=if Bu S k then some (S,k)else none by unfold Bq;rw[h,hk]);have Hof:=Aa (fun W=>Ym s W hs);have hl:=hok.2.2;have Hkd:=Aa (fun W=>N0 (Be k).length (Be k) W (Al _) aI);have Hok:=Aa hok;rw[h]at Hof;rw[hk]at Hkd;clear h hk hok;go_enter func45,ntmps45;go_wp2_with fail;refine(Hof.o _).mono ?_;rintro e w1 ⟨⟨v,xs,rfl,hx,hsc⟩,hb⟩;subst hx;have Hsc:=Aa hsc;obtain⟨A,c,rfl,_,_,hfds⟩:=hsc;have Hfds:=Aa hfds;have Hb:=Aa hb;clear hb hfds;go_wp2_with fail;refine(Hkd.o _).mono ?_;rintro e w2 ⟨rfl,rfl⟩;go_wp2_with fail;refine(Xs k Hok.o _).mono ?_;rintro e w2 ⟨rfl,rfl⟩;go_wp2_with fail;refine(Rf k Hok.o _).mono ?_;rintro e w2 ⟨rfl,rfl⟩;go_wp2_with fail;refine(Vr _ xs (Xb k) _ Hsc.o).mono ?_;rintro e w2 ⟨rfl,hb2⟩;have Hb2:=Aa (Hb.o.trans (hb2.mono Hb.o.size));have Hs2:=Aa (Hsc.o.below hb2);clear hb2;cases hx2:D9 xs (Xb k)with
 |none=>
  unfold Rv Pt;rcases hir:Xn k with _|_
  ·have Hr:=Aa (show (if Bu (Af xs) k then some (Af xs,k)else none)=if (true:Bool)=true then some (Af xs,k)else none by
    have:=Mi xs k;rw[hx2,hir]at this;simp at this;simp[this])
   go_wp2_with fail;refine aG (v:=.tuple #[.slice A xs.length c,.bool true]) (by simp[results,results45,go_sem]) rfl ?_;exact jh
  have Hr:=Aa (show (if Bu (Af xs) k then some (Af xs,k)else none)=if (false:Bool)=true then some (Af xs,k)else none by
   have:=Mi xs k;rw[hx2,hir]at this;simp at this;simp[this])
  go_wp2_with fail;refine aG (v:=.tuple #[.slice A xs.length c,.bool false]) (by simp[results,results45,go_sem]) rfl ?_;exact Jm.of (b:=false) (HF.o.trans Hr.o) rfl rfl (Hs2.o.below ((Aq _ _).alloc (Al _) _)) aY
 |some y=>
  obtain⟨ty,yv⟩:=y;obtain⟨A5,c5,e5,_⟩:=Hfds.o _ (Cl hx2).1;simp only[]at e5;subst e5;unfold Rv Pu;rcases hir:Xn k with _|_
  ·have Hr:=Aa (show (if Bu (Af xs) k then some (Af xs,k)else none)=if (true:Bool)=true then some (Af xs,k)else none by
    have:=Mi xs k;rw[hx2,hir]at this;simp at this;simp[this])
   go_wp2_with fail;refine aG (v:=.tuple #[.slice A xs.length c,.bool true]) (by simp[results,results45,go_sem]) rfl ?_;exact jh
  have Hr:=Aa (show (if Bu (Af xs) k then some (Af xs,k)else none)=if (true:Bool)=true then some (Af xs,k)else none by
   have:=Mi xs k;rw[hx2,hir]at this;simp at this;simp[this])
  go_wp2_with fail;refine aG (v:=.tuple #[.slice A xs.length c,.bool true]) (by simp[results,results45,go_sem]) rfl ?_;exact jh
theorem Qv(s d:List UInt8)(w:World)(hs:s.length<=4000000)(hd:d.length<=4000000):
  Calls prog 45 #[s,d] w (Jm (Bq s d) w):=by
 cases h:Ck s with
 |none=>exact Yt s d w hs h
 |some S=>cases hk:C5 d with
  |none=>exact Qc4 s d w hs hd S h hk
  |some k=>exact Qjw s d w hs S h k hk
theorem Nd.no{s d x:List UInt8}{w w':World}{v:Value}{q:Option Addr}(hb:Below w w w')(h:∀y,Bq s d=some y->Jv y.1 y.2 x=none):Nd s d x w (.returned (.tuple #[v,.pointer q,.bool false])) w':=by
 refine⟨hb,?_⟩;cases hy:Bq s d with
 |none=>exact⟨v,q,rfl⟩
 |some y=>simp only;rw[h y hy];exact⟨v,q,rfl⟩
theorem Ql4(HNm:∀(w0:World) (xs:List (Ty × Value)) (xv:Value),Gj w0 xv xs->Kt (Af xs)->NmC w0 (Af xs) xv)(s d x:List UInt8)(w:World)(hs:s.length<=4000000)(hd:d.length<=4000000)(hx:x.length<=4000000):
  Calls prog 79 #[s,d,x] w (Nd s d x w):=by
 have Hk:=Aa (fun W=>Qv s d W hs hd);go_enter func79,ntmps79;go_wp2_with fail;refine(Hk.o _).mono ?_;rintro e w1 ⟨hm,hb1⟩;have Hb1:=Aa hb1;clear hb1;cases hbo:Bq s d with
 |none=>
  have HB:=Aa hbo;rw[hbo]at hm;obtain⟨A,n,c,rfl⟩:=hm;clear hbo;go_wp2_with fail;refine aG (v:=.tuple #[.slice none 0 0,.pointer none,.bool false]) (by simp[results,results79,go_sem]) rfl ?_;exact Nd.no Hb1.o fun y hy=>by rw[HB.o]at hy;cases hy
 |some y=>
  obtain⟨S,k⟩:=y;have HB:=Aa hbo;rw[hbo]at hm;obtain⟨xv,xs,rfl,hty,hsc⟩:=hm;obtain⟨g1,_,_,g4,g5,_⟩:=Ec hbo;obtain⟨A9,c9,rfl,hl9,_⟩:=hsc;have Hsc:=@Aa (Gj w1 (.slice A9 xs.length c9) xs) ⟨A9,c9,rfl,hl9,by assumption⟩;clear hbo;by_cases h400:400<x.length
  ·have t4:decide ((400:Int)<(x.length:Int))=true:=aE aI;have t5:(400:Int)<(x.length:Int):=aI;have HV:=@Aa (Jv S k x=none) (by unfold Jv;rw[if_pos h400]);clear h400 g1 g4 g5;go_wp2_with fail;refine aG (v:=.tuple #[.slice none 0 0,.pointer none,.bool false]) (by simp[results,results79,go_sem]) rfl ?_;exact Nd.no Hb1.o fun y hy=>cM
  have t5:¬((400:Int)<(x.length:Int)):=aI;have hr:Calls prog 105 #[.agg #[.slice A9 xs.length c9],x,.string ⟨(Be k).toArray⟩,.int .i64 ((12:Nat):Int)] w1 (Bc S k (Am S 20 12 k x) w1):=by
   have:=Qb0 w1 (Af xs) (by rw[hty];exact g1.1.1) (.slice A9 xs.length c9) rfl (HNm w1 xs _ Hsc.o (by rw[hty];exact g1)) 12 aI k g4 x w1 (Aq _ _) aI;rw[hty]at this;exact this
  rw[g5,show (((12:Nat)):Int)=12 from rfl]at hr;have HR:=Aa hr;have HV:=@Aa (Jv S k x=match Am S 20 12 k x with|some (v,[])=>some v|_=>none) (by unfold Jv;rw[if_neg h400];rfl);have Hty:=Aa hty;generalize Am S 20 12 k x=o at *;clear h400 g1 g4 g5 hr hty;go_wp2_with fail;refine HR.o.mono ?_;rintro e w5 hp;obtain⟨vp,vr,vk,rfl,hb5,hm⟩:=hp.q;have Hb5:=Aa (Hb1.o.trans (hb5.mono Hb1.o.size));have Hsc5:=Aa (Hsc.o.below hb5);have hz:=Hb1.o.size;clear hb5 hp;cases o with
  |none=>
   obtain⟨⟨q0,rfl⟩,⟨r0,rfl⟩,rfl⟩:=hm;go_wp2_with fail;refine aG (v:=.tuple #[.slice A9 xs.length c9,.pointer q0,.bool false]) (by simp[results,results79,go_sem]) rfl ?_;exact Nd.no Hb5.o fun y hy=>cM
  |some y=>
   obtain⟨v,r⟩:=y;obtain⟨⟨b,rfl,hsv⟩,rfl,rfl⟩:=hm;have Hsv:=Aa hsv;clear hsv;cases r with
   |nil=>
    go_wp2_with fail;refine aG (v:=.tuple #[.slice A9 xs.length c9,b,.bool true]) (by simp[results,results79,go_sem]) rfl ?_;refine⟨Hb5.o,?_⟩;rw[HB.o];simp only;rw[HV.o];exact⟨_,xs,b,rfl,Hty.o,Hsc5.o,Hsv.o.mono fun c1 hc _=>ad hz hc⟩
   |cons c z=>
    go_wp2_with fail;refine aG (v:=.tuple #[.slice A9 xs.length c9,b,.bool false]) (by simp[results,results79,go_sem]) rfl ?_;exact Nd.no Hb5.o fun y hy=>cM
abbrev Qnk(B:Nat)(W:World)(g n c:Nat)(xs:List (List UInt8)):Prop:=W.ownsRow B 9 1 (.slice (g,0) n c) n (Bz xs)
structure ApR(w0:World)(xs:List (List UInt8))(k:Nat)(x:List UInt8)(l0 l4 l9 l10 l14 l15:Bool)(u0 u4 u9 u10 u14 u15:Value)(W:World):Prop where
 bel:Below w0 w0 W
 d10:l10=true->l4=true/\l9=true
 d14:l14=true->l10=true
 d15:l15=true->l14=true
 s0:l0=true->l4=false->∃b,u0=.slice (some ⟨b,0,none⟩) 0 0/\Qnk w0.heap.size W b 0 0 []
 s4:l4=true->l10=false->∃b c,u4=.slice (some ⟨b,0,none⟩) k c/\Qnk w0.heap.size W b k c (xs.take k)
 s9:l9=true->l10=false->∃b,u9=.slice (some ⟨b,0,none⟩) 1 1/\w0.heap.size<=b/\b<W.heap.size/\W.cell? ⟨b,0,none⟩=x/\(l0=true->l4=false->u0.ownBlock≠some b)/\(l4=true->u4.ownBlock≠some b)
 s10:l10=true->l14=false->∃b c,u10=.slice (some ⟨b,0,none⟩) (k+1) c/\Qnk w0.heap.size W b (k+1) c (xs.take k++[x])
 s14:l14=true->∃b c,u14=.slice (some ⟨b,0,none⟩) (xs.length+1) c/\Qnk w0.heap.size W b (xs.length+1) c (xs.take k++x::xs.drop k)
 s15:l15=true->u15=u14
section
variable {w0 W W':World} {xs:List (List UInt8)} {k:Nat} {x:List UInt8} {l0 l4 l9 l10 l14 l15:Bool} {u0 u4 u9 u10 u14 u15:Value}
theorem ApR.start:ApR w0 xs k x false false false false false false u0 u4 u9 u10 u14 u15 w0.drew:=
 ⟨(Aq _ _).drew,by simp,by simp,by simp,by simp,by simp,by simp,by simp,by simp,by simp⟩
end
end
end Go.Proofs.YtmmhmlmfhpfgbaaGreatDoor
