/- Texts joined. Conditions: as each theorem names them. -/
import Derived.Deep.CutRange
import Derived.Deep.DeepCutAuto
import Derived.Test.YtkigmebejmmikaaGreatDoorV22
set_option maxRecDepth 100000
set_option maxHeartbeats 32000000
set_option linter.unusedVariables false
set_option linter.unusedSimpArgs false
namespace Go.Proofs.YtkigmebejmmikaaGreatDoor
open Go.RowKit Go.Proofs.Tryz
section
attribute [local go_sem] Qo1 Qof Qnv Qlx ByteArray.mk_append_mk
def Qa(tx:List UInt8)(ok:Bool)(w:World)(e:Ending)(w':World):Prop:=e=.returned (.tuple #[tx,.bool ok])/\Below w w w'
def Qkn(S:List Ty)(d:Nat):Prop:=∀(k:Kd) (v:Vl),Gb S d k v->Ch k->(Ay v).length<=400->∀(P:Nat->Prop) (p sl:Value) (xs:List PT) (w:World),Q7 w p xs->Af xs=S->Dt P w sl v.kids ->
 Calls prog 18 #[p,Ey k,Gy v sl] w (Qa (Mn S d k v) (Cp S d k v) w)
structure FmE(w w3:World)(p:Value)(k:Kd)(v:Vl)(sl:Value):Prop where
 b:Below w w w3
 l:w.heap.size+2<w3.heap.size
 p0:w3.cell? (w,0)=some p
 k0:w3.cell? (w,1,0)=k.signs
 k1:w3.cell? (w,1,1)=k.base
 k2:w3.cell? (w,1,2)=k.name
 v0:w3.cell? (w,2,0)=some (.int .u8 (v.what.toNat:Int))
 v1:w3.cell? (w,2,1)=v.text
 v2:w3.cell? (w,2,2)=(v.tag:Int)
 v3:w3.cell? (w,2,3)=some sl
theorem FmE.of{w w3:World}{t1 t2 t3:TypeId}{p:Value}{k:Kd}{v:Vl}{sl:Value}(h:((w.alloc (.cells #[p] t1)).alloc (.cells #[k.signs,k.base,k.name] t2)).alloc (.cells #[.int .u8 (v.what.toNat:Int),v.text,(v.tag:Int),sl] t3)=w3):FmE w w3 p k v sl:=by
 refine⟨?_,?_,?_,?_,?_,?_,?_,?_,?_,?_⟩<;>rw[<-h]
 ·exact(((Aw _ _).alloc (Ar _) _).alloc aL _).alloc aO _
 all_goals simp[go_sem]
theorem FmE.below{w w3 w4:World}{p:Value}{k:Kd}{v:Vl}{sl:Value}(h:FmE w w3 p k v sl)(hb:Below w3 w3 w4):FmE w w4 p k v sl:=by
 have hl:=h.l;have c:∀i j,i<=2->w4.cell? ⟨w.heap.size+i,j,none⟩=w3.cell? ⟨w.heap.size+i,j,none⟩:=fun i j hi=>hb.cell (p:=⟨w.heap.size+i,j,none⟩) (show w.heap.size+i<_ by omega);exact⟨h.b.trans (hb.mono h.b.size),ac h.l hb.size,(c 0 0 aG).trans h.p0,(c 1 0 aG).trans h.k0,(c 1 1 aG).trans h.k1,(c 1 2 aG).trans h.k2,(c 2 0 aG).trans h.v0,(c 2 1 aG).trans h.v1,(c 2 2 aG).trans h.v2,(c 2 3 aG).trans h.v3⟩
theorem Sh(P:Nat->Prop)(p:Value)(q:Nat)(hp:p=q)(k:Kd)(hs:k.signs=[])(hb:k.base≠[64])(v:Vl)(hbd:Bd v)(sl:Value)(w:World)(h:Dt P w sl v.kids):
  Calls prog 18 #[p,Ey k,Gy v sl] w (Qa (Ay v) true w):=by
 subst hp;have HP:=Aa (fun W (hW:Below w w W)=>M8 P hbd sl W (h.after hW));obtain⟨A,c,rfl⟩:=h.form;have t1:(k.base != [64])=true:=gi;have t2:(k.base == [64])=false:=gi;unfold Ey;unfold Gy at *;rw[hs];clear hs h hb hbd;go_enter func18,ntmps18;go_wp2_with fail;generalize hwg:World.alloc (World.alloc (World.alloc w _) _) _=w3;have HE:=Aa (FmE.of (k:=⟨[],k.base,k.name⟩) (v:=v) hwg);clear hwg;refine(D2 _ _ w3).mono ?_;rintro e w4 ⟨rfl,hb4⟩;obtain⟨hb,l3,_,_,k1,k2,v0,v1,v2,v3⟩:=HE.o.below hb4;have Hb:=Aa hb;simp only at k1 k2;clear HE hb4 hb;go_wp2_with fail;refine(HP.o w4 Hb.o).mono ?_;rintro e w5 ⟨rfl,hb5⟩;have Hb5:=Aa (Hb.o.trans (hb5.mono Hb.o.size));clear hb5;go_wp2_with fail;go_ret2;exact⟨rfl,Hb5.o⟩
theorem Qfq{S:List Ty}(hS:∀t∈S,Do t)(d:Nat)(ih:Qkn S d)(k:Kd)(r:List UInt8)(hs:k.signs=91::r)(hk:Ch k)(ks:List Vl)(h20:ks.length<=20)(hks:∀x∈ks,Gb S d k.part x)(hl:(Ay (.mk 91 [] 0 ks)).length<=400)
  (P:Nat->Prop) (p sl:Value) (xs:List PT) (w:World) (hsc:Q7 w p xs) (hxs:Af xs=S) (hiv:Dt P w sl ks):
  Calls prog 18 #[p,Ey k,Gy (.mk 91 [] 0 ks) sl] w (Qa (Mn S (d+1) k (.mk 91 [] 0 ks)) (Cp S (d+1) k (.mk 91 [] 0 ks)) w):=by
 have HP:=Aa (fun W (hW:Below w w W) (y:Vl) (hy:y∈ks) (ysl:Value) (hys:Dt P w ysl y.kids)=>ih k.part y (hks y hy) (Kb hk).1 (by
  have h:=Mo (ao (f:=Ay) hy);rw[Gr]at hl;simp only[List.length_cons,ah,Bg,List.length_nil]at hl;omega) P p ysl xs W (hsc.below hW) hxs (hys.after hW))
 have hkl:=hk.2.2;have hrl:r.length<=1000:=cH;have HQ:=Aa (fun W=>Mr k W 91 r hs hrl);obtain⟨q,_,rfl,_⟩:=hsc.map;have HF:=Aa (fun y (hy:y∈ks)=>And.intro (fun h=>Qgg (S:=S) (hks y hy) h) (Qb2 hS (hks y hy)));have HO:=Aa (show Cp S (d+1) k (.mk 91 [] 0 ks)=ks.all (Cp S d k.part)by simp[Cp,Vl.what,Vl.kids]);have HT:=@Aa (ks.all (Cp S d k.part)=true->Mn S (d+1) k (.mk 91 [] 0 ks)=91::(Am 44 (ks.map (Dj S d k.part))++[93])) (fun h=>by rw[K0 bC bC,HO.o,h];simp[Dj,Vl.what,Vl.kids]);have HN:=@Aa (ks.all (Cp S d k.part)=false->Mn S (d+1) k (.mk 91 [] 0 ks)=[]) (fun h=>by rw[K0 bC bC,HO.o,h];simp)
 have HLn:=Aa (show Cq (ks.map (Dj S d k.part))<=100000 by
  have:=X7 (Dj S d k.part) Ay ks fun y hy=>Rl hS _ _ _ (hks y hy);rw[Gr]at hl;simp only[List.length_cons,ah,Bg,List.length_nil]at hl;omega)
 have HLp:=Aa (show ∀y∈ks,(Ay y).length<=400 from fun y hy=>by
  have h:=Mo (ao (f:=Ay) hy);rw[Gr]at hl;simp only[List.length_cons,ah,Bg,List.length_nil]at hl;omega)
 rw[HO.o];generalize Mn S (d+1) k (.mk 91 [] 0 ks)=out at *;obtain⟨A9,c9,ys,rfl,hkv,hyl,hrow,hPr,hkid⟩:=hiv;have Hrow:=Aa hrow;have Hkid:=Aa hkid;have Hkv:=Aa hkv;have hlen:ys.length<=20:=by rw[hkv]at h20;simpa [As]using h20
 have Hs:=Aa hs;clear hs hsc ih hks hl hkl hrow hkid hkv hPr h20 HO;unfold Ey at *;unfold Gy at *;simp only[Vl.what,Vl.text,Vl.tag];go_enter func18,ntmps18;go_wp2_with fail;generalize hwg:World.alloc (World.alloc (World.alloc w _) _) _=w3;have HE:=Aa (FmE.of (k:=k) (v:=.mk 91 [] 0 ks) hwg);clear hwg;have HSg:=Aa (Fc 91 r hrl ⟨k.base.toArray⟩ ⟨k.name.toArray⟩ w3);rw[<-Hs.o]at HSg;refine HSg.o.mono ?_;rintro e w4 ⟨rfl,hb4⟩;have HE4:=Aa (HE.o.below hb4);obtain⟨hb,l3,p0,k0,k1,k2,v0,v1,v2,v3⟩:=HE.o.below hb4;have Hb:=Aa hb;clear HE hb4 hb HSg;go_wp2_with fail;go_loopw [26,8,10,11,12] (fun i u x10 x11 x12 wr=>∃(m:Nat) (A3:Option Addr) (n3 q3:Nat),i=.int .i64 m/\u=.slice A3 n3 q3/\m<=ys.length/\Hid (wr.ownsRow w4 9 1 (.slice A3 n3 q3) m (Ah ((ys.take m).map fun y=>Dj S d k.part y.1)))/\Hid (Below w4 w4 wr)/\Hid ((ys.take m).all (fun y=>Cp S d k.part y.1)=true)) (fun i _ _ _ _ _=>ys.length - (intOf i).toNat)
 case atStart=>exact⟨0,none,0,0,rfl,rfl,ag _,World.ownsRow_nil _ _ _ _,Aw _ _,rfl⟩
 case round=>
  obtain⟨m,A3,n3,q3,rfl,rfl,hm,Hown,Hbr,Hall⟩:=hrel;have m1:(0:Int)<=(m:Int):=aG;by_cases hlt:m<ys.length
  ·have m2:(m:Int)<(ys.length:Int):=aG;have hbw:Below w w wr:=Hb.o.trans (Hbr.o.mono Hb.o.size);obtain⟨b,off,rfl,hb5,d0,d1,d2,d3⟩:=Dt.at_ (Hrow.o.below hbw) hlt;have Hts:=Aa (Bx ys m hlt);obtain⟨_,l3r,p0r,k0r,k1r,k2r,_,_,_,_⟩:=HE4.o.below Hbr.o;have hsz:w4.heap.size<=wr.heap.size:=Hbr.o.size;have hbn:¬(b=wr.heap.size):=aG;have hym:ys[m].1∈ks:=by rw[Hkv.o];exact ao (ae hlt)
   have Hym:=Aa hym;have Hkm:=Aa (Hkid.o _ (ae hlt));obtain⟨A7,c7,e7⟩:=Hkm.o.form;rw[e7]at d3;have E7:=Aa e7;have HFm:=Aa (HF.o _ hym);have hol:(Ay ys[m].1).length<=400:=HLp.o _ hym;have HPm:=Aa (fun W (hW:Below w w W)=>HP.o W hW _ hym _ Hkm.o);rw[E7.o]at HPm;clear hym e7;obtain⟨y,hy⟩:∃y,y=ys[m].1:=⟨_,rfl⟩
   rw[<-hy]at d0 d1 d2 d3 HFm HPm Hym hol;have Hy:=Aa hy;clear hy;obtain⟨tx,htx⟩:∃tx,tx=Mn S d k.part y:=⟨_,rfl⟩
   obtain⟨okm,hok⟩:∃o,o=Cp S d k.part y:=⟨_,rfl⟩
   rw[<-htx,<-hok]at HFm HPm;have Hok:=Aa hok;clear htx hok;have htl:tx.length<=8000:=by have:=HFm.o.2;omega
   go_wp2_with fail;generalize hwk:World.alloc wr _=wk;have hbk:Below wr wr wk:=eC;have y0:wk.cell? (wr,0)=some (.int .u8 (y.what.toNat:Int)):=cX;have y1:wk.cell? (wr,1)=some (.string ⟨y.text.toArray⟩):=cX;have y2:wk.cell? (wr,2)=(y.tag:Int):=cX;have y3:wk.cell? (wr,3)=some (.slice A7 y.kids.length c7):=cX;have ly:wr.heap.size<wk.heap.size:=by rw[<-hwk];simp
   clear hwk;obtain⟨_,l3k,p0k,k0k,k1k,k2k,_,_,_,_⟩:=(HE4.o.below Hbr.o).below hbk;have l0k:w.heap.size<wk.heap.size:=aG;have l1k:w.heap.size+1<wk.heap.size:=aG;have Hbk:=Aa hbk;clear hbk p0r k0r k1r k2r d0 d1 d2 d3 l3r;refine rgB ?_;iterate 2 refine sq ?_
   refine sqC (fun W hW=>HQ.o W) ?_;refine sq ?_;refine sqC (fun W hW=>HPm.o W (hbw.trans ((Hbk.o.trans (hW.mono Hbk.o.size)).mono hbw.size))) ?_;iterate 5 refine sq ?_
   refine Xi fun w5 HB=>?_;have hs5:w4.heap.size<=w5.heap.size:=by have:=Hbk.o.size;have:=HB.o.size;omega
   have Hb5:=Aa (Hbr.o.trans ((Hbk.o.trans (HB.o.mono Hbk.o.size)).mono hsz));have Ho5:=Aa (Ba Hown.o (Hbk.o.trans (HB.o.mono Hbk.o.size)));clear HB Hbk y0 y1 y2 y3 p0k k0k k1k k2k ly l3k l0k l1k HPm hbn hb5;cases okm with
   |false=>
    have Hx:=Aa (show ks.all (Cp S d k.part)=false by rw[List.all_eq_false];exact⟨y,Hym.o,by rw[<-Hok.o];simp⟩);have Hb6:=Aa (Hb.o.trans (Hb5.o.mono Hb.o.size));go_wp2_with fail;go_ret2;rw[Hx.o,HN.o Hx.o];exact⟨rfl,Hb6.o⟩
   |true=>
    have Htx:=Aa (HFm.o.1 rfl);have Hall2:=Aa (show (ys.take (m+1)).all (fun y=>Cp S d k.part y.1)=true by rw[Hts.o,List.all_append,Hall.o];simp[<-Hy.o,<-Hok.o]);go_wp2_with (at_builtin;refine J2 _ rfl _ _ 63 rfl w4 9 aa 16 underlying63 Ej rfl w5 (.string ⟨tx.toArray⟩) rfl rfl (.slice A3 n3 q3) m (Ah ((ys.take m).map fun y=>Dj S d k.part y.1)) rfl rfl Ho5.o aU aG hs5 ?_;intro v' w6 hown6 hb6;obtain⟨A5,n5,c5,rfl⟩:=Gm hown6;have Ho:=Aa hown6;have Hb6:=Aa hb6;clear hown6 hb6)
    go_roundw
    case rel=>exact⟨m+1,A5,n5,c5,by go_num,rfl,by omega,(by rw[Hts.o,ay,Jn];show World.ownsRow _ _ _ _ _ _ (_++Ah [Dj S d k.part ys[m].1]);rw[<-Hy.o,<-Htx.o];exact Ho.o),Hb5.o.trans Hb6.o,Hall2.o⟩
    case measure=>simp[intOf];omega
  ·obtain rfl:m=ys.length:=aG;have hown6:=Hown.o;rw[List.take_length]at hown6;obtain⟨A6,c6,e6,hr6⟩:=Bh.own hown6;have hcap:=Xy hown6;injection e6 with e7 e8 e9;subst e7 e8 e9;have hpl:(ys.map fun y=>Dj S d k.part y.1).length=ys.length:=aL;have hka:ks.all (Cp S d k.part)=true:=by
    have:=Hall.o;rw[List.take_length]at this;rw[Hkv.o,As,List.all_map];exact this
   have hkm:ks.map (Dj S d k.part)=ys.map fun y=>Dj S d k.part y.1:=by rw[Hkv.o,As,List.map_map];rfl
   obtain⟨jn,hjn⟩:∃j,j=Am 44 (ks.map (Dj S d k.part)):=⟨_,rfl⟩
   have hjl:jn.length<=100000:=by rw[hjn,Bg];have:=HLn.o;omega
   have HJ:=Aa (by
    have:=Qgd 44 A3 q3 (ys.map fun y=>Dj S d k.part y.1) wr (by rw[hpl];exact hr6) (by rw[hpl];omega) (by rw[<-hkm];have:=HLn.o;omega);rw[hpl,<-hkm,<-hjn]at this;exact this:Calls prog 37 #[.slice A3 ys.length q3,.string ⟨#[44]⟩] wr fun e w'=>e=.returned jn/\Below wr wr w')
   have Hka:=Aa hka;have Hout:=Aa (HT.o hka);rw[<-hjn]at Hout;have Hb6:=Aa (Hb.o.trans (Hbr.o.mono Hb.o.size));clear hown6 hr6 hcap hpl Hown hka hkm hjn HF HP;go_wp2_with fail;refine HJ.o.mono ?_;rintro e w7 ⟨rfl,hb7⟩;have Hb7:=Aa (Hb6.o.trans (hb7.mono Hb6.o.size));clear hb7;go_wp2_with fail;go_ret2;rw[Hka.o,Hout.o];exact⟨by simp,Hb7.o⟩
theorem Qbf{S:List Ty}(hS:∀t∈S,Do t)(d:Nat)(ih:Qkn S d)(k:Kd)(r:List UInt8)(hs:k.signs=63::r)(hk:Ch k)(ks:List Vl)(hks:ks=[]\/∃x,ks=[x]/\Gb S d k.part x)(hl:(Ay (.mk 63 [] 0 ks)).length<=400)
  (P:Nat->Prop) (p sl:Value) (xs:List PT) (w:World) (hsc:Q7 w p xs) (hxs:Af xs=S) (hiv:Dt P w sl ks):
  Calls prog 18 #[p,Ey k,Gy (.mk 63 [] 0 ks) sl] w (Qa (Mn S (d+1) k (.mk 63 [] 0 ks)) (Cp S (d+1) k (.mk 63 [] 0 ks)) w):=by
 have hkl:=hk.2.2;have hrl:r.length<=1000:=cH;have HQ:=Aa (fun W=>Mr k W 63 r hs hrl);obtain⟨q,_,rfl,_⟩:=hsc.map;obtain⟨sg,hsg,hsgv⟩:∃sg:Int,(∀W,Calls prog 35 #[Ey k.part] W fun e w'=>e=.returned (.int .u8 sg)/\Below W W w')/\(sg == 63)=decide (k.part.signs.head?=some 63):=by
  cases hp:k.part.signs with
  |nil=>exact⟨0,fun W=>by unfold Ey;rw[hp];exact D2 _ _ W,by simp⟩
  |cons c t=>
   have hpr:k.part.signs=r:=ew;have ht:t.length<=1000:=gw;refine⟨(c.toNat:Int),fun W=>by unfold Ey;rw[hp];exact Fc c t ht _ _ W,?_⟩;exact lU
 have HSg2:=Aa hsg;have HR:=Aa (show Mn S (d+1) k (.mk 63 [] 0 ks)=if k.part.signs.head?=some 63 then[]else match ks with|[]=>H7|x::_=>Mn S d k.part x by simp[Mn,Vl.what,Vl.kids]<;>rfl);have HO:=Aa (show Cp S (d+1) k (.mk 63 [] 0 ks)=(decide (k.part.signs.head?≠some 63) && ks.all (Cp S d k.part))by simp[Cp,Vl.what,Vl.kids]);generalize Mn S (d+1) k (.mk 63 [] 0 ks)=out at *;generalize Cp S (d+1) k (.mk 63 [] 0 ks)=oko at *
 have HP:=Aa (fun W (hW:Below w w W) (y:Vl) (hy:ks=[y]) (ysl:Value) (hys:Dt P w ysl y.kids)=>ih k.part y (by
  rcases hks with h|⟨x,h,h2⟩
  ·rw[h]at hy;cases hy
  ·rw[h]at hy;injection hy with hy;rw[<-hy];exact h2) (Kb hk).1 (by
  rw[hy]at hl;simp[Ay,Di,Fa,Am]at hl;omega) P q ysl xs W (hsc.below hW) hxs (hys.after hW))
 obtain⟨A9,c9,ys,rfl,hkv,hyl,hrow,hPr,hkid⟩:=hiv;have Hkid:=Aa hkid;have Hkv:=Aa hkv;have hy1:ys.length<=1:=by
  have:=congrArg List.length hkv;rw[As,List.length_map]at this;rcases hks with h|⟨x,h,_⟩<;>rw[h]at this<;>simp at this<;>omega
 have Hs:=Aa hs;obtain⟨n,hn⟩:∃n,n=ys.length:=⟨_,rfl⟩
 rw[<-hn]at hrow hy1 ⊢;have Hrow:=Aa hrow;have Hn:=Aa hn;have enter:∀hd:Bool,decide (k.part.signs.head?=some 63)=hd->Calls prog 18 #[q,Ey k,Gy (.mk 63 [] 0 ks) (.slice A9 n c9)] w (Qa out oko w):=by
  intro hd hhd;rw[hhd]at hsgv;have Hhd:=Aa hhd;clear hhd hn hks hkl hl ih hs hsg hrow hPr hkid hkv hsc;unfold Ey at *;unfold Gy at *;simp only[Vl.what,Vl.text,Vl.tag];have hsgn:decide (sg=63)=hd:=by rw[<-hsgv,Bool.eq_iff_iff];simp
  go_enter func18,ntmps18;go_wp2_with fail;generalize hwg:World.alloc (World.alloc (World.alloc w _) _) _=w3;have HE:=Aa (FmE.of (k:=k) (v:=.mk 63 [] 0 ks) hwg);clear hwg;have HSg:=Aa (Fc 63 r hrl ⟨k.base.toArray⟩ ⟨k.name.toArray⟩ w3);rw[<-Hs.o]at HSg;refine HSg.o.mono ?_;rintro e w4 ⟨rfl,hb4⟩;have HE4:=Aa (HE.o.below hb4);obtain⟨hb,l3,p0,k0,k1,k2,v0,v1,v2,v3⟩:=HE.o.below hb4;have Hb:=Aa hb;clear HE hb4 hb HSg;go_wp2_with fail;refine(HQ.o w4).mono ?_;rintro e w5 ⟨rfl,hb5⟩;have Hb5:=Aa hb5;clear hb5 p0 k0 k1 k2 v0 v1 v2 v3;go_wp2_with fail;refine(HSg2.o w5).mono ?_;rintro e w6 ⟨rfl,hb6⟩;have HE6:=Aa ((HE4.o.below Hb5.o).below hb6);obtain⟨hb,l6,p0,k0,k1,k2,v0,v1,v2,v3⟩:=(HE4.o.below Hb5.o).below hb6;have Hb6:=Aa hb;clear hb6 hb HE4 Hb5 Hb l3;cases hd with
  |true=>
   have h1:=of_decide_eq_true Hhd.o;have HR2:=Aa (HR.o.trans (if_pos h1));have HO2:=Aa (HO.o.trans (by rw[h1];rfl:_=false));clear h1;go_wp2_with fail;go_ret2;rw[HR2.o,HO2.o];exact⟨rfl,Hb6.o⟩
  |false=>
   have h1:=of_decide_eq_false Hhd.o;have HR2:=Aa (HR.o.trans (if_neg h1));have HO2:=Aa (HO.o.trans (by rw[aC h1,Bool.true_and]:_=ks.all (Cp S d k.part)));clear h1;obtain rfl|rfl:n=0\/n=1:=aG
   ·have hn:ks=[]:=by rw[Hkv.o,List.eq_nil_of_length_eq_zero Hn.o.symm];rfl
    have HR3:=Aa (HR2.o.trans (by rw[hn]:_=H7));have HO3:=Aa (HO2.o.trans (by rw[hn];rfl:_=true));clear hn;go_wp2_with fail;go_ret2;rw[HR3.o,HO3.o];exact⟨rfl,Hb6.o⟩
   obtain⟨z,rfl⟩:∃z,ys=[z]:=List.length_eq_one_iff.1 Hn.o.symm;have hn:ks=[z.1]:=Hkv.o;have HR3:=Aa (HR2.o.trans (by rw[hn]:_=Mn S d k.part z.1));have HO3:=Aa (HO2.o.trans (by rw[hn];simp:_=Cp S d k.part z.1));obtain⟨b,off,rfl,hb7,d0,d1,d2,d3⟩:=Dt.at_ (xs:=[z]) (i:=0) (Hrow.o.below Hb6.o) aL;simp only[List.getElem_cons_zero,Nat.zero_mul,Nat.add_zero]at d0 d1 d2 d3;have Hkm:=Aa (Hkid.o z aL);obtain⟨A7,c7,e7⟩:=Hkm.o.form;have HPm:=Aa (fun W (hW:Below w w W)=>HP.o W hW _ hn _ Hkm.o);rw[e7]at d3 HPm;clear e7 hn HR HR2 HO HO2 Hkm;generalize Mn S d k.part z.1=tx at *;generalize Cp S d k.part z.1=okm at *;generalize z.1=y at *;have l0:w.heap.size<w6.heap.size:=aG;have l1:w.heap.size+1<w6.heap.size:=aG;go_wp2_with fail;refine rgB ?_;iterate 2 refine sq ?_
   refine sqC (fun W hW=>HQ.o W) ?_;iterate 4 refine sq ?_
   refine sqC (fun W hW=>HPm.o W (Hb6.o.trans (hW.mono Hb6.o.size))) ?_;iterate 4 refine sq ?_
   refine Xi fun w7 HB=>?_;have Hb7:=Aa (Hb6.o.trans (HB.o.mono Hb6.o.size));clear HB;go_wp2_with fail;go_ret2;rw[HR3.o,HO3.o];exact⟨rfl,Hb7.o⟩
 exact enter _ rfl
theorem Qi5{S:List Ty}(hS:∀t∈S,Do t)(d:Nat)(k:Kd)(hs:k.signs=[])(hbs:k.base=[64])(hk:Ch k)(f:Fd)
  (P:Nat->Prop) (p sl:Value) (xs:List PT) (w:World) (hsc:Q7 w p xs) (hxs:Af xs=S) (x:PT) (hx:Fi xs k.name=some x) (h9:x.ty.sort=69) (hf:Bj x.ty.fields f.tag=some f) (hiv:Dt P w sl []):
  Calls prog 18 #[p,Ey k,Gy (.mk 69 [] f.tag []) sl] w (Qa (Mn S (d+1) k (.mk 69 [] f.tag [])) (Cp S (d+1) k (.mk 69 [] f.tag [])) w):=by
 obtain⟨A9,c9,rfl⟩:=hiv.form;have ht:B6 S k.name=some x.ty:=by rw[<-hxs,Jp,hx];rfl
 have hfo:=(hS x.ty (Be ht).1).2.2.1.1 f (Bi hf).2;have hfl:f.name.length<=3:=(C7.1 hfo.2.2.1).2.1;have hft:f.tag<=1000000000:=by have:=hfo.2.1;omega
 have HO:=Aa (show Cp S (d+1) k (.mk 69 [] f.tag [])=true by simp[Cp,Vl.what]);have HR:=Aa (show Mn S (d+1) k (.mk 69 [] f.tag [])=34::(f.name++[34])by rw[K0 bC bC,HO.o];simp[Dj,Vl.what,Vl.tag,Dp ht hf]);generalize Mn S (d+1) k (.mk 69 [] f.tag [])=out at *;generalize Cp S (d+1) k (.mk 69 [] f.tag [])=oko at *;obtain⟨fb,fo,hfb,hfr,hX⟩:=S9 w x (hsc.tys x (Dz hx).1) f.tag hft f hf;have f1:=Ab hfr 1 rfl;have HX:=Aa hX;simp only[List.length_nil]at *;clear hX hfr hfo ht hf hiv hxs hS;have hkl:=Fv hk;obtain⟨q,mb,rfl,hq,hm,hnm⟩:=hsc.map;have hix:=hsc.tys x (Dz hx).1;obtain⟨hy0,_,hy1,_⟩:=id hix;have HL:=Aa (fun W (hW:Below w w W)=>Fg (Ed.below hnm hW) k.name aG);rw[hx]at HL;unfold Rp PT.ptr at HL;have Hix:=Aa hix;have Hsc:=Aa hsc;have Hs:=Aa hs;have t1:(k.base != [64])=false:=cV;have t2:(k.base == [64])=true:=cV;have Hsc2:=Aa hsc;rw[h9]at hy1;clear hs hbs hsc hnm hk h9 hix;unfold Ey at *;unfold Gy at *;simp only[Vl.what,Vl.text,Vl.tag];go_enter func18,ntmps18;go_wp2_with fail;generalize hwg:World.alloc (World.alloc (World.alloc w _) _) _=w3;have HE:=Aa (FmE.of (k:=k) (v:=.mk 69 [] f.tag []) hwg);clear hwg;have HSg:=Aa (D2 ⟨k.base.toArray⟩ ⟨k.name.toArray⟩ w3);rw[<-Hs.o]at HSg;refine HSg.o.mono ?_;rintro e w4 ⟨rfl,hb4⟩;have HE4:=Aa (HE.o.below hb4);obtain⟨hb,l3,p0,k0,k1,k2,v0,v1,v2,v3⟩:=HE.o.below hb4;have Hb:=Aa hb;have q1:=(hb.cell (p:=⟨q,1,none⟩) hq).trans hm;have y0:=(hb.cell (p:=⟨x.blk,0,none⟩) hy0).trans hy1;have l4:q<w4.heap.size:=aG;have l5:x.blk<w4.heap.size:=aG;have l6:w.heap.size<w4.heap.size:=aG;have l7:w.heap.size+1<w4.heap.size:=aG;clear HE hb4 hb HSg hm hy1;go_wp2_with fail;refine rgB ?_;iterate 6 refine sq ?_
 refine Ga (fun v=>v=x.blk) ?_ ?_
 ·exact jb
 refine sq ?_;refine Xi fun w5 HB=>?_;have HE5:=Aa (HE4.o.below HB.o);have Hb5:=Aa (Hb.o.trans (HB.o.mono Hb.o.size));replace y0:=(HB.o.cell (p:=⟨x.blk,0,none⟩) l5).trans y0
 replace l5:=ac l5 HB.o.size
 clear HB HL HE4 Hb p0 k0 k1 k2 v0 v1 v2 v3 q1 l3 l4 l6 l7;obtain⟨_,l3,p0,k0,k1,k2,v0,v1,v2,v3⟩:=HE5.o;clear p0 k0 k1 k2 v0 v1 v3;go_wp2_with fail;have HXw:=Aa (HX.o w5 Hb5.o);refine HXw.o.mono ?_;rintro e w6 ⟨rfl,rfl⟩;have g1:=(Hb5.o.cell (p:=⟨fb,fo+1,none⟩) hfb).trans f1;have g2:fb<w5.heap.size:=ac hfb Hb5.o.size;go_wp2_with fail;go_ret2;rw[HR.o,HO.o];exact⟨by simp,Hb5.o⟩
def AdR(B:Nat)(ls:List (List UInt8))(vo:Value)(w6:World)(b:Bool)(W:World):Prop:=Below B w6 W/\(b=false->Below w6 w6 W)/\(b=true->∃A n c,Xf B ls (.slice A n c) W/\Ek B vo w6 W (.slice A n c))
theorem Qh5{S:List Ty}(hS:∀t∈S,Do t)(d:Nat)(ih:Qkn S d)(k:Kd)(hs:k.signs=[])(hbs:k.base=[64])(hk:Ch k)(f:Fd)(y:Vl)(hy:Gb S d f.kind y)(hl4:(Ay (.mk 85 [] f.tag [y])).length<=400)
  (P:Nat->Prop) (p sl:Value) (xs:List PT) (w:World) (hsc:Q7 w p xs) (hxs:Af xs=S) (x:PT) (hx:Fi xs k.name=some x) (h9:x.ty.sort=85) (hf:Bj x.ty.fields f.tag=some f) (hiv:Dt P w sl [y]):
  Calls prog 18 #[p,Ey k,Gy (.mk 85 [] f.tag [y]) sl] w (Qa (Mn S (d+1) k (.mk 85 [] f.tag [y])) (Cp S (d+1) k (.mk 85 [] f.tag [y])) w):=by
 have ht:B6 S k.name=some x.ty:=by rw[<-hxs,Jp,hx];rfl
 have hfo:=(hS x.ty (Be ht).1).2.2.1.1 f (Bi hf).2;have hfl:f.name.length<=3:=(C7.1 hfo.2.2.1).2.1;have hft:f.tag<=1000000000:=by have:=hfo.2.1;omega
 have hfk:Ch f.kind:=(Py hS ht (by rw[h9];decide) (Bi hf).2).1;have hyl:(Ay y).length<=400:=by simp[Ay,Di,Fa,Am]at hl4;omega
 have hfs:=Cv ht hf;have HO:=Aa (show Cp S (d+1) k (.mk 85 [] f.tag [y])=Cp S d f.kind y by simp[Cp,Vl.what,Vl.kids,Vl.tag,hfs]);have HR:=Aa (show Mn S (d+1) k (.mk 85 [] f.tag [y])=123::(f.name++58::(Mn S d f.kind y++[125]))by simp[Mn,Vl.what,Vl.tag,Vl.kids,Mw,Dp ht hf,hfs]);have htl:(Mn S d f.kind y).length<=8000:=by have:=Qb2 hS hy;omega
 generalize Mn S (d+1) k (.mk 85 [] f.tag [y])=out at *;generalize Cp S (d+1) k (.mk 85 [] f.tag [y])=oko at *;have HP:=Aa (fun W (hW:Below w w W) (ysl:Value) (hys:Dt P w ysl y.kids)=>ih f.kind y hy hfk hyl P p ysl xs W (hsc.below hW) hxs (hys.after hW));generalize Mn S d f.kind y=tx at *;generalize Cp S d f.kind y=okm at *;obtain⟨A9,c9,ys,rfl,hkv,_,hrow,hPr,hkid⟩:=hiv;obtain⟨z,rfl⟩:∃z,ys=[z]:=List.length_eq_one_iff.1 (by have:=congrArg List.length hkv;simpa [As]using this.symm);obtain rfl:y=z.1:=by injection hkv
 have Hrow:=Aa hrow;have Hkm:=Aa (hkid z aL);obtain⟨A7,c7,e7⟩:=Hkm.o.form;have HPm:=Aa (fun W (hW:Below w w W)=>HP.o W hW _ Hkm.o);obtain⟨b,off,rfl,hb7,d0,d1,d2,d3⟩:=Dt.at_ (xs:=[z]) (i:=0) (Hrow.o) aL;simp only[List.getElem_cons_zero,Nat.zero_mul,Nat.add_zero]at d0 d1 d2 d3;rw[e7]at d3 HPm;obtain⟨fb,fo,hfb,hfr,hX⟩:=S9 w x (hsc.tys x (Dz hx).1) f.tag hft f hf;have Hfr:=Aa hfr;have HX:=Aa hX;simp only[List.length_cons,List.length_nil,am]at *;clear hX hfr hfo ht hf hxs hS hkv hrow hPr hkid ih hy hl4 hfk hfs HP hyl;generalize z.1=y at *;have hkl:=Fv hk;obtain⟨q,mb,rfl,hq,hm,hnm⟩:=hsc.map;have hix:=hsc.tys x (Dz hx).1;obtain⟨hy0,_,hy1,_⟩:=id hix;have HL:=Aa (fun W (hW:Below w w W)=>Fg (Ed.below hnm hW) k.name aG);rw[hx]at HL;unfold Rp PT.ptr at HL;have Hix:=Aa hix;have Hsc:=Aa hsc;have Hs:=Aa hs;have t1:(k.base != [64])=false:=cV;have t2:(k.base == [64])=true:=cV;have Hsc2:=Aa hsc;rw[h9]at hy1;clear hs hbs hsc hnm hk h9 hix;unfold Ey at *;unfold Gy at *;simp only[Vl.what,Vl.text,Vl.tag];go_enter func18,ntmps18;go_wp2_with fail;generalize hwg:World.alloc (World.alloc (World.alloc w _) _) _=w3;have HE:=Aa (FmE.of (k:=k) (v:=.mk 85 [] f.tag [y]) hwg);clear hwg;have HSg:=Aa (D2 ⟨k.base.toArray⟩ ⟨k.name.toArray⟩ w3);rw[<-Hs.o]at HSg;refine HSg.o.mono ?_;rintro e w4 ⟨rfl,hb4⟩;have HE4:=Aa (HE.o.below hb4);obtain⟨hb,l3,p0,k0,k1,k2,v0,v1,v2,v3⟩:=HE.o.below hb4;have Hb:=Aa hb;have q1:=(hb.cell (p:=⟨q,1,none⟩) hq).trans hm;have y0:=(hb.cell (p:=⟨x.blk,0,none⟩) hy0).trans hy1;have l4:q<w4.heap.size:=aG;have l5:x.blk<w4.heap.size:=aG;have l6:w.heap.size<w4.heap.size:=aG;have l7:w.heap.size+1<w4.heap.size:=aG;clear HE hb4 hb HSg hm hy1;go_wp2_with fail;refine rgB ?_;iterate 6 refine sq ?_
 refine Ga (fun v=>v=x.blk) ?_ ?_
 ·exact jb
 refine sq ?_;refine Xi fun w5 HB=>?_;have HE5:=Aa (HE4.o.below HB.o);have Hb5:=Aa (Hb.o.trans (HB.o.mono Hb.o.size));replace y0:=(HB.o.cell (p:=⟨x.blk,0,none⟩) l5).trans y0
 replace l5:=ac l5 HB.o.size
 clear HB HL HE4 Hb p0 k0 k1 k2 v0 v1 v2 v3 q1 l3 l4 l6 l7;obtain⟨_,l3,p0,k0,k1,k2,v0,v1,v2,v3⟩:=HE5.o;replace d0:=(Hb5.o.cell (p:=⟨b,off,none⟩) hb7).trans d0
 replace d1:=(Hb5.o.cell (p:=⟨b,off+1,none⟩) hb7).trans d1
 replace d2:=(Hb5.o.cell (p:=⟨b,off+2,none⟩) hb7).trans d2
 replace d3:=(Hb5.o.cell (p:=⟨b,off+3,none⟩) hb7).trans d3
 have l7:b<w5.heap.size:=ac hb7 Hb5.o.size;have l8:fb<w5.heap.size:=ac hfb Hb5.o.size;go_wp2_with fail;generalize hwg:World.alloc w5 _=w6;obtain⟨B,hB⟩:∃B,B=w5.heap.size:=⟨_,rfl⟩
 have hb6:Below w5 w5 w6:=cC;have HE6:=HE5.o.below hb6;have hst:Xf B [] (.slice none 0 0) w6:=by
  refine⟨?_,?_,?_,World.ownsRow_nil _ _ _ _⟩<;>rw[<-hwg,hB]<;>simp[go_sem]
 replace d0:=(hb6.cell (p:=⟨b,off,none⟩) l7).trans d0
 replace d1:=(hb6.cell (p:=⟨b,off+1,none⟩) l7).trans d1
 replace d2:=(hb6.cell (p:=⟨b,off+2,none⟩) l7).trans d2
 replace d3:=(hb6.cell (p:=⟨b,off+3,none⟩) l7).trans d3
 replace y0:=(hb6.cell (p:=⟨x.blk,0,none⟩) l5).trans y0
 have Hb6:=Aa (Hb5.o.trans (hb6.mono Hb5.o.size));have hz6:B<w6.heap.size:=gN;rw[<-hB]at l3 l5 l7 l8 ⊢;have Hst:=Aa hst;clear hwg hb6 hst p0 k0 k1 k2 v0 v1 v2 v3;obtain⟨_,_,p0,k0,k1,k2,v0,v1,v2,v3⟩:=HE6;have m0:w.heap.size<B:=aG;have m1:w.heap.size+1<B:=aG;have m2:w.heap.size<w6.heap.size:=aG;have HB0:=Aa hB;clear hB;refine rgF (fun l u W=>AdR B [f.name++58::tx] (.slice none 0 0) w6 (l 9) W) (fun W=>∀b o j,b<B->W.cell? ⟨b,o,j⟩=w6.cell? ⟨b,o,j⟩) (fun _ _ W h b o j hb=>h.1.cell (p:=⟨b,o,j⟩) hb) ⟨(Aw _ _).drew,fun _=>(Aw _ _).drew,fun h=>absurd h aL⟩ ?_;iterate 4 refine sq ?_
 refine Ga (fun v=>v=.pointer (some ⟨fb,fo,none⟩)) (by
  intro l u W hl hp hF hG hi K hK;have h9:=(hi.o 9 bQ).1;have hw:=hF.o.2.1 h9;simp[Region.binds,Cg]at hp;clear h9;have Hw:=Aa (Hb6.o.trans (hw.mono Hb6.o.size));clear hw;go_simp;refine(HX.o W Hw.o).mono ?_;rintro e w' ⟨rfl,rfl⟩;exact hK _ _ _ rfl hF.o br) ?_
 iterate 4 refine sq ?_
 refine Ga (fun v=>v=.bool okm) (by
  intro l u W hl hp hF hG hi K hK;have hF:AdR B [f.name++58::tx] (.slice none 0 0) w6 (l 9) W:=hF.o;rw[hl]at hF;have hw:=hF.2.1 rfl;simp[Region.binds,Cg]at hp;have HC:=Aa (Qdr B w.heap.size fb fo q f y (.slice A7 y.kids.length c7) tx okm [] none 0 0 W (Hst.o.below hw) aL ((hw.cell (p:=⟨w.heap.size,0,none⟩) m2).trans p0) (ac m2 hw.size) (Au (Au Hfr.o hfb Hb6.o) (show fb<w6.heap.size by omega) hw) l8 aG aG ⟨_,_,_,rfl⟩ ⟨_,rfl⟩ (fun W' hW'=>HPm.o W' (Hb6.o.trans ((hw.trans (hW'.mono hw.size)).mono Hb6.o.size))));have Hw:=Aa hw;clear hw hF hi;unfold Ey Gy at HC;go_simp;refine HC.o.mono ?_;rintro e w' ⟨rfl,A3,n3,c3,h3,k3⟩;refine hK _ _ _ rfl ?_ br;have kk:=(Ek.of_below (B:=B) (vo:=.slice none 0 0) Hw.o).trans k3;exact⟨kk.under (Nat.le_of_lt hz6) (Ar _) (fun k h=>by cases h),fun h=>absurd h aL,fun _=>⟨A3,n3,c3,h3,kk⟩⟩) ?_
 refine sq ?_;refine dn fun l u w7 hl _ hR=>?_;have hR1:=hR.o.1;obtain⟨A3,n3,c3,hst3,hk3⟩:=hR.o.2.2 (hl 9 aJ);have Hb7:=Aa (Hb6.o.trans (hR1.mono aG));obtain⟨hz7,hc7,_,hown7⟩:=hst3;obtain⟨A4,c4,e4,hr4⟩:=Bh.own hown7;have hcap:=Xy hown7;injection e4 with e5 e6 e7;subst e5 e6 e7
 have HJ:=Aa (by
  have:=Qj2 [] A3 c3 [f.name++58::tx] w7 hr4 aG eG (by rw[Lib.join_one];simp;omega);rw[show Lib.join [f.name++58::tx] []=f.name++58::tx from Lib.join_one _ _]at this;exact this)
 have hl7:B<w7.heap.size:=aG;obtain⟨t,ht⟩:∃t,t=f.name++58::tx:=⟨_,rfl⟩
 rw[<-ht]at HJ;have htt:t.length<=20000:=by rw[ht];simp;omega
 have Ht:=Aa ht;simp only[List.length_cons,List.length_nil,am]at HJ hc7;clear ht hl hR hR1 hk3 hown7 hr4 hcap p0 k0 k1 k2 v0 v1 v2 v3 d0 d1 d2 d3 y0;go_wp2_with fail;refine HJ.o.mono ?_;rintro e w8 ⟨rfl,hb8⟩;have Hb8:=Aa (Hb7.o.trans (hb8.mono Hb7.o.size));clear hb8;go_wp2_with fail;go_ret2;rw[HR.o,HO.o];exact⟨by rw[Ht.o];simp,Hb8.o⟩
theorem AdR.kept{B:Nat}{ls:List (List UInt8)}{vo:Value}{w6:World}{b:Bool}{W:World}(h:AdR B ls vo w6 b W):∃vo',Ek B vo w6 W vo':=by
 cases b
 ·exact⟨_,Ek.of_below (h.2.1 rfl)⟩
 obtain⟨A,n,c,_,k⟩:=h.2.2 rfl;exact⟨_,k⟩
def FdE(S:List Ty)(d:Nat)(k:Kd)(x:PT)(y:Vl):Prop:=∃f y1,y.kids=[y1]/\Bj x.ty.fields y.tag=some f/\D5 S k y.tag=f.name/\Fq S k y.tag=f.kind/\Mw y=y1/\Gb S d f.kind y1/\Ch f.kind/\(Ay y1).length<=400/\f.name.length<=3/\y.tag<=1000000000
def fdT(S:List Ty)(d:Nat)(k:Kd)(y:Vl):List UInt8:=D5 S k y.tag++58::Dj S d (Fq S k y.tag) (Mw y)
def Ry(S:List Ty)(d:Nat)(k:Kd)(y:Vl):Bool:=Cp S d (Fq S k y.tag) (Mw y)
theorem Qic{S:List Ty}(hS:∀t∈S,Do t)(d:Nat)(ih:Qkn S d)(k:Kd)(hs:k.signs=[])(hbs:k.base=[64])(hk:Ch k)(ks:List Vl)
  (P:Nat->Prop) (p sl:Value) (xs:List PT) (w:World) (hsc:Q7 w p xs) (hxs:Af xs=S) (x:PT) (hx:Fi xs k.name=some x) (h9:x.ty.sort=82) (hE:∀y∈ks,FdE S d k x y) (hk8:ks.length<=8)
  (hpw:ks.Pairwise fun a b=>D5 S k a.tag≠D5 S k b.tag) (hln:Cq ((byN S k ks).map (fdT S d k))<=100000) (hiv:Dt P w sl ks):
  Calls prog 18 #[p,Ey k,Gy (.mk 82 [] 0 ks) sl] w (Qa (Mn S (d+1) k (.mk 82 [] 0 ks)) (Cp S (d+1) k (.mk 82 [] 0 ks)) w):=by
 have HO:=Aa (show Cp S (d+1) k (.mk 82 [] 0 ks)=ks.all (Ry S d k)by simp[Cp,Vl.what,Vl.kids];rfl);have HR:=Aa (show Mn S (d+1) k (.mk 82 [] 0 ks)=if ks.all (Ry S d k)=true then 123::(Am 44 ((byN S k ks).map (fdT S d k))++[125])else[]by rw[K0 bC bC,HO.o];simp[Dj,Vl.what,Vl.kids];rfl);generalize Mn S (d+1) k (.mk 82 [] 0 ks)=out at *;generalize Cp S (d+1) k (.mk 82 [] 0 ks)=oko at *;have HP:=Aa (fun W (hW:Below w w W) (f:Fd) (y:Vl) (hy:Gb S d f.kind y) (hfk:Ch f.kind) (hyl:(Ay y).length<=400) (P:Nat->Prop) (ysl:Value) (hys:Dt P W ysl y.kids)=>ih f.kind y hy hfk hyl P p ysl xs W (hsc.below hW) hxs hys);have hiv:=hiv.mono (Q:=fun c=>c<w.heap.size) (fun b _ h=>h);have Hiv:=Aa hiv;obtain⟨A9,c9,rfl⟩:=hiv.form;have HX:=Aa (fun(y:Vl) (hy:y∈ks) (f:Fd) (h:y.tag<=1000000000) (hf:Bj x.ty.fields y.tag=some f)=>S9 w x (hsc.tys x (Dz hx).1) y.tag h f hf);have HEl:=Aa hE;have HB:=Aa (fun W (hW:Below w w W)=>Qc3 W x ((hsc.tys x (Dz hx).1).below hW) (.mk 82 [] 0 ks) _ (.slice A9 ks.length c9) (hiv.after hW) (fun g=>D5 S k g) (fun y hy=>by obtain⟨f,y1,_,h1,h2,_,_,_,_,_,_,h3⟩:=hE y hy;exact⟨h3,f,h1,h2.symm⟩) hpw (by show ks.length<=12;omega));have HPm:=Aa (Je (fun y:Vl=>D5 S k y.tag) ks);have Hln:=Aa hln;have HFl:=@Aa (∀(f:Fd) (y:Vl),Gb S d f.kind y->(Ay y).length<=400->(Mn S d f.kind y).length<=8000/\(Cp S d f.kind y=true->Mn S d f.kind y=Dj S d f.kind y)) (fun f y h h4=>⟨by have:=Qb2 hS h;omega,fun h5=>Qgg h h5⟩);simp only[Vl.kids]at HB;unfold PT.ptr Gy at HB;clear hiv hE ih hxs hS hpw hln;have hkl:=Fv hk;obtain⟨q,mb,rfl,hq,hm,hnm⟩:=hsc.map;have hix:=hsc.tys x (Dz hx).1;obtain⟨hy0,_,hy1,_⟩:=id hix;have HL:=Aa (fun W (hW:Below w w W)=>Fg (Ed.below hnm hW) k.name aG);rw[hx]at HL;unfold Rp PT.ptr at HL;have Hix:=Aa hix;have Hsc:=Aa hsc;have Hs:=Aa hs;have t1:(k.base != [64])=false:=cV;have t2:(k.base == [64])=true:=cV;have Hsc2:=Aa hsc;rw[h9]at hy1;clear hs hbs hsc hnm hk h9 hix;unfold Ey at *;unfold Gy at *;simp only[Vl.what,Vl.text,Vl.tag];go_enter func18,ntmps18;go_wp2_with fail;generalize hwg:World.alloc (World.alloc (World.alloc w _) _) _=w3;have HE:=Aa (FmE.of (k:=k) (v:=.mk 82 [] 0 ks) hwg);clear hwg;have HSg:=Aa (D2 ⟨k.base.toArray⟩ ⟨k.name.toArray⟩ w3);rw[<-Hs.o]at HSg;refine HSg.o.mono ?_;rintro e w4 ⟨rfl,hb4⟩;have HE4:=Aa (HE.o.below hb4);obtain⟨hb,l3,p0,k0,k1,k2,v0,v1,v2,v3⟩:=HE.o.below hb4;have Hb:=Aa hb;have q1:=(hb.cell (p:=⟨q,1,none⟩) hq).trans hm;have y0:=(hb.cell (p:=⟨x.blk,0,none⟩) hy0).trans hy1;have l4:q<w4.heap.size:=aG;have l5:x.blk<w4.heap.size:=aG;have l6:w.heap.size<w4.heap.size:=aG;have l7:w.heap.size+1<w4.heap.size:=aG;clear HE hb4 hb HSg hm hy1;go_wp2_with fail;refine rgB ?_;iterate 6 refine sq ?_
 refine Ga (fun v=>v=x.blk) ?_ ?_
 ·exact jb
 refine sq ?_;refine Xi fun w5 HB=>?_;have HE5:=Aa (HE4.o.below HB.o);have Hb5:=Aa (Hb.o.trans (HB.o.mono Hb.o.size));replace y0:=(HB.o.cell (p:=⟨x.blk,0,none⟩) l5).trans y0
 replace l5:=ac l5 HB.o.size
 clear HB HL HE4 Hb p0 k0 k1 k2 v0 v1 v2 v3 q1 l3 l4 l6 l7;obtain⟨_,l3,p0,k0,k1,k2,v0,v1,v2,v3⟩:=HE5.o;go_wp2_with fail;generalize hwg:World.alloc w5 _=w6;obtain⟨B,hB⟩:∃B,B=w5.heap.size:=⟨_,rfl⟩
 have hb6:Below w5 w5 w6:=cC;have HE6:=HE5.o.below hb6;have hst:Xf B [] (.slice none 0 0) w6:=by
  refine⟨?_,?_,?_,World.ownsRow_nil _ _ _ _⟩<;>rw[<-hwg,hB]<;>simp[go_sem]
 have Hb6:=Aa (Hb5.o.trans (hb6.mono Hb5.o.size));have hz6:B<w6.heap.size:=gN;have l8:w.heap.size+2<B:=aG;rw[<-hB]at l3 ⊢;have HHB:=Aa (HB.o w6 Hb6.o);refine HHB.o.mono ?_;rintro e w7 ⟨sl',rfl,hiv7,hb7⟩;have HE7:=HE6.below hb7;have Hst:=Aa (hst.below hb7);have Hb7:=Aa (Hb6.o.trans (hb7.mono Hb6.o.size));have hz7:B<w7.heap.size:=ac hz6 hb7.size;have hiv8:=hiv7.mono (Q:=fun c=>c≠B/\c<w7.heap.size) (fun b h hb=>⟨by rcases h with h|h<;>omega,hb⟩);obtain⟨vs,hvs⟩:∃vs,vs=Gg (fun y:Vl=>D5 S k y.tag) ks:=⟨_,rfl⟩
 rw[<-hvs]at hiv8 HPm;obtain⟨A4,c4,rfl⟩:=hiv8.form;have Hs4:=Aa hiv8;have hyl:vs.length<=8:=by have:=HPm.o.length_eq;omega
 have Hm4:=Aa (fun z (hz:z∈vs)=>HPm.o.mem_iff.1 hz:∀z∈vs,z∈ks)
 have Hall4:=Aa (show ks.all (Ry S d k)=vs.all (Ry S d k)by
  rw[Bool.eq_iff_iff,List.all_eq_true,List.all_eq_true];exact⟨fun h z hz=>h _ (HPm.o.mem_iff.1 hz),fun h y hy=>h y (HPm.o.mem_iff.2 hy)⟩)
 have Hby:=Aa (show (byN S k ks).map (fdT S d k)=vs.map (fdT S d k)by rw[hvs];rfl);have HB0:=Aa hB;clear hB hwg hb6 hst HE5 HE6 hiv7 hiv8 hvs hb7 HB HHB HPm p0 k0 k1 k2 v0 v1 v2 v3 y0 l5;obtain⟨_,l9,p0,k0,k1,k2,v0,v1,v2,v3⟩:=HE7;clear k0 k1 k2 v0 v1 v2 v3;go_wp2_with fail;go_loopw [120,18] (fun i x18 wr=>∃(m:Nat) (A3:Option Addr) (n3 q3:Nat),i=.int .i64 m/\m<=vs.length/\Hid (Xf B ((vs.take m).map (fdT S d k)) (.slice A3 n3 q3) wr)/\Hid (Ek B (.slice none 0 0) w7 wr (.slice A3 n3 q3))/\Hid ((vs.take m).all (Ry S d k)=true)) (fun i _ _=>vs.length - (intOf i).toNat)
 case atStart=>exact⟨0,none,0,0,rfl,ag _,Hst.o,Ek.refl _ _ _,rfl⟩
 case round=>
  obtain⟨m,A3,n3,q3,rfl,hm,Hst3,Hk3,Hall⟩:=hrel;have m1:(0:Int)<=(m:Int):=aG
  have Hon:=Aa (show ∀c,c≠B->c<w7.heap.size->some c≠(Value.slice A3 n3 q3).ownBlock from fun c _ h e=>by
   rcases Hk3.o.own with e2|⟨y,e2,hy⟩
   ·rw[e2]at e;cases e
   rw[e2]at e;injection e with e;omega)
  have Hbw:=Aa (Hb7.o.trans ((Hk3.o.under (lo:=B) (Nat.le_of_lt hz7) (Ar _) (fun k h=>by cases h)).mono aG):Below w w wr);by_cases hlt:m<vs.length
  ·have m2:(m:Int)<(vs.length:Int):=aG;obtain⟨A5,c5,ys5,e5,hkv5,hyl5,hrow5,_,hkid5⟩:=Hs4.o.kept (Q:=fun c=>c≠B/\c<w7.heap.size) (fun b o u hp hl hu=>Hk3.o.cell hu hl hp.1 (fun h=>by cases h)) Hk3.o.size (fun b h _=>h);injection e5 with e51 e52 e53;subst e51 e53;have hlt5:m<ys5.length:=aG;obtain⟨b,off,rfl,hb5,d0,d1,d2,d3⟩:=Dt.at_ hrow5 hlt5;have hvm:vs[m]=ys5[m].1:=by simp[hkv5,As]
   have Hym:=Aa (Hm4.o _ (ae hlt));have Hkm:=hkid5 _ (ae hlt5);have Hts:=Aa (Bx vs m hlt);rw[hvm]at Hym Hts;clear hkid5 hrow5 hkv5 hvm hyl5 e52;generalize ys5[m]=z at *;obtain⟨y,ysl⟩:=z;simp only at d0 d1 d2 d3 Hkm Hym Hts;obtain⟨f,y1,hyk,hyf,hyn,hyd,hy1,hyo,hyfk,hyp,hyfl,hyt⟩:=HEl.o y Hym.o;rw[hyk]at Hkm;obtain⟨A7,c7,zs,rfl,hkz,_,hrow7,hP7,hkid7⟩:=Hkm;obtain⟨z,rfl⟩:∃z,zs=[z]:=List.length_eq_one_iff.1 (by have:=congrArg List.length hkz;simpa [As]using this.symm);obtain rfl:y1=z.1:=by injection hkz
   obtain⟨b7,o7,rfl,hb7,z0,z1,z2,z3⟩:=Dt.at_ (xs:=[z]) (i:=0) hrow7 aL;obtain⟨hP71,hP72⟩:=hP7 b7 o7 aL rfl;simp only[List.getElem_cons_zero,Nat.zero_mul,Nat.add_zero]at z0 z1 z2 z3;have Hkz:=Aa (hkid7 z aL);obtain⟨A8,c8,e8⟩:=Hkz.o.form;have Hkz2:=Hkz.o;rw[e8]at z3 Hkz2;have Hkz3:=Aa Hkz2;have Hfd:=Aa (show fdT S d k y=f.name++58::Dj S d f.kind z.1 by unfold fdT;rw[hyn,hyd,hy1]);have Hfo:=Aa (show Ry S d k y=Cp S d f.kind z.1 by unfold Ry;rw[hyd,hy1]);obtain⟨htl,htx⟩:=HFl.o f z.1 hyo hyp;obtain⟨fb,fo,hfb,hfr,hX⟩:=HX.o y Hym.o f hyt hyf;have HX6:=Aa hX;have Hfr:=Aa hfr;have HPm:=Aa (fun W (hW:Below w w W) (h2:Below wr wr W)=>HP.o W hW f z.1 hyo hyfk hyp _ _ (Hkz3.o.after h2));have Htx:=Aa htx;clear e8 Hkz Hkz2 hkid7 hrow7 hP7 hkz htx hfr hX hyk hyf hyn hyd hy1 hyo hyfk hyp;generalize Mn S d f.kind z.1=tx at *;generalize Cp S d f.kind z.1=okm at *;generalize z.1=y1 at *;simp only[List.length_cons,List.length_nil,am]at *;have g0:¬(b=wr.heap.size):=aG;go_wp2_with fail;generalize hwk:World.alloc wr _=wk;have hbk:Below wr wr wk:=eC;have u2:wk.cell? (wr,2)=(y.tag:Int):=cX;have u3:wk.cell? (wr,3)=some (.slice (some ⟨b7,o7,none⟩) 1 c7):=cX;have lk:wr.heap.size<wk.heap.size:=by rw[<-hwk];simp
   replace z0:=(hbk.cell (p:=⟨b7,o7,none⟩) hb7).trans z0
   replace z1:=(hbk.cell (p:=⟨b7,o7+1,none⟩) hb7).trans z1
   replace z2:=(hbk.cell (p:=⟨b7,o7+2,none⟩) hb7).trans z2
   replace z3:=(hbk.cell (p:=⟨b7,o7+3,none⟩) hb7).trans z3
   have Hbk:=Aa hbk;have Hstk:=Aa (Hst3.o.below hbk);have hpr:=(hbk.cell (p:=⟨w.heap.size,0,none⟩) (show w.heap.size<_ from by have:=Hbw.o.size;have:=Hk3.o.size;omega)).trans (Hk3.o.cell (b:=w.heap.size) p0 aG aG (fun h=>by cases h));have Hpr:=Aa hpr
   have Hfar:=Aa (show ∀c,(c=wr.heap.size\/c=b7)->c<wk.heap.size/\c≠B/\some c≠(Value.slice A3 n3 q3).ownBlock from fun c hc=>by
    rcases hc with rfl|rfl
    ·exact⟨lk,by have:=Hk3.o.size;omega,fun e=>by have:=(Hst3.o.lt _ e.symm).2;omega⟩
    exact⟨by omega,hP71,Hon.o _ hP71 hP72⟩)
   have n1:w.heap.size<wk.heap.size:=by have:=Hbw.o.size;have:=Hk3.o.size;omega
   have n2:B<=wr.heap.size:=by have:=Hk3.o.size;omega
   clear hwk hbk d0 d1 d2 d3 hpr
   refine rgF (fun l u W=>AdR B (((vs.take m).map (fdT S d k))++[f.name++58::tx]) (.slice A3 n3 q3) wk (l 9) W) (fun W=>(∀j,W.cell? ⟨wr.heap.size,j,none⟩=wk.cell? ⟨wr.heap.size,j,none⟩)/\∀j,W.cell? ⟨b7,j,none⟩=wk.cell? ⟨b7,j,none⟩) (fun _ _ W h=>by
    obtain⟨vo',hk⟩:=h.kept;have hc:∀c,(c=wr.heap.size\/c=b7)->∀j,W.cell? ⟨c,j,none⟩=wk.cell? ⟨c,j,none⟩:=fun c hc j=>by
     obtain⟨h1,h2,h3⟩:=Hfar.o c hc;exact World.cell?_of_block (hk.block c h1 h2 h3)
    exact⟨hc _ (.inl rfl),hc _ (.inr rfl)⟩) ⟨(Aw _ _).drew,fun _=>(Aw _ _).drew,fun h=>absurd h aL⟩ ?_
   iterate 4 refine sq ?_
   refine Ga (fun v=>v=.pointer (some ⟨fb,fo,none⟩)) (by
    intro l u W hl hp hF hG hi K hK;have h9:=(hi.o 9 bQ).1;have hw:=hF.o.2.1 h9;simp[Region.binds,Cg]at hp;clear h9;have Hw:=Aa (Hbw.o.trans ((Hbk.o.trans (hw.mono Hbk.o.size)).mono Hbw.o.size));clear hw;go_simp;refine(HX6.o W Hw.o).mono ?_;rintro e w' ⟨rfl,rfl⟩;exact hK _ _ _ rfl hF.o br) ?_
   iterate 4 refine sq ?_
   refine Ga (fun v=>v=.bool okm) (by
    intro l u W hl hp hF hG hi K hK;have hF:AdR B (((vs.take m).map (fdT S d k))++[f.name++58::tx]) (.slice A3 n3 q3) wk (l 9) W:=hF.o;rw[hl]at hF;have hw:=hF.2.1 rfl;simp[Region.binds,Cg]at hp;have hw2:Below w w W:=Hbw.o.trans ((Hbk.o.trans (hw.mono Hbk.o.size)).mono Hbw.o.size);have HC:=Aa (Qdr B w.heap.size fb fo q f y1 (.slice A8 y1.kids.length c8) tx okm ((vs.take m).map (fdT S d k)) A3 n3 q3 W (Hstk.o.below hw) aO ((hw.cell (p:=⟨w.heap.size,0,none⟩) n1).trans Hpr.o) (ac n1 hw.size) (Au Hfr.o hfb hw2) aG aG aG ⟨_,_,_,rfl⟩ ⟨_,rfl⟩ (fun W' hW'=>HPm.o W' (hw2.trans (hW'.mono hw2.size)) (Hbk.o.trans ((hw.trans (hW'.mono hw.size)).mono Hbk.o.size))));have Hw:=Aa hw;clear hw hw2 hF hi;unfold Ey Gy at HC;go_simp;refine HC.o.mono ?_;rintro e w' ⟨rfl,A6,n6,c6,h6,k6⟩;refine hK _ _ _ rfl ?_ br;have kk:=(Ek.of_below (B:=B) (vo:=.slice A3 n3 q3) Hw.o).trans k6;exact⟨kk.under aG (Ar _) (fun k h=>by have:=(Hst3.o.lt k h).1;omega),fun h=>absurd h aL,fun _=>⟨A6,n6,c6,h6,kk⟩⟩) ?_
   refine sq ?_;refine dn fun l u w9 hl _ hR=>?_;have hR1:=hR.o.1;obtain⟨A6,n6,c6,hst6,hk6⟩:=hR.o.2.2 (hl 9 aJ);have Hb9:=Aa (Hbw.o.trans (((Hbk.o.mono n2).trans hR1).mono aG):Below w w w9);have Hst6:=Aa hst6;have Hk6:=Aa (Hk3.o.trans ((Ek.of_below Hbk.o).trans hk6));clear hl hR hR1 hst6 hk6 u2 u3 z0 z1 z2 z3 lk;cases okm with
   |false=>
    have Hx:=Aa (show ks.all (Ry S d k)=false by rw[List.all_eq_false];exact⟨y,Hym.o,by rw[Hfo.o];simp⟩);go_wp2_with fail;go_ret2;rw[HR.o,HO.o,Hx.o];exact⟨rfl,Hb9.o⟩
   |true=>
    have hq:=Hst6.o;rw[Htx.o rfl,<-Hfd.o]at hq;have Hq:=Aa (show Xf B ((vs.take (m+1)).map (fdT S d k)) (.slice A6 n6 c6) w9 by rw[Hts.o,ay];exact hq);have Hall2:=Aa (show (vs.take (m+1)).all (Ry S d k)=true by rw[Hts.o,List.all_append,Hall.o];simp[Hfo.o]);clear hq;go_wp2_with fail;go_roundw
    case rel=>exact⟨m+1,A6,n6,c6,by go_num,by omega,Hq.o,Hk6.o,Hall2.o⟩
    case measure=>simp[intOf];omega
  ·obtain rfl:m=vs.length:=aG;obtain⟨hz9,hc9,_,hown9⟩:=Hst3.o;rw[List.take_length]at hown9;obtain⟨A6,c6,e6,hr6⟩:=Bh.own hown9;have hcap:=Xy hown9;injection e6 with e7 e8 e9;subst e7 e8 e9;have hpl:(vs.map (fdT S d k)).length=vs.length:=aL;have Hka:=Aa (show ks.all (Ry S d k)=true by have:=Hall.o;rw[List.take_length]at this;rw[Hall4.o];exact this);obtain⟨jn,hjn⟩:∃j,j=Am 44 ((byN S k ks).map (fdT S d k)):=⟨_,rfl⟩
   have hjl:jn.length<=100000:=by rw[hjn,Bg];have:=Hln.o;omega
   have HJ:=Aa (by
    have:=Qgd 44 A3 q3 (vs.map (fdT S d k)) wr hr6 aG (by rw[<-Hby.o];have:=Hln.o;omega);rw[hpl,<-Hby.o,<-hjn]at this;exact this:Calls prog 37 #[.slice A3 vs.length q3,.string ⟨#[44]⟩] wr fun e w'=>e=.returned jn/\Below wr wr w')
   have Hout:=Aa (HR.o.trans (by rw[Hka.o,if_pos rfl,<-hjn]:_=123::(jn++[125])));have hl9:B<wr.heap.size:=aG;rw[hpl]at hc9;clear hown9 hr6 hcap hpl hjn HP HX HEl HFl HB0;go_wp2_with fail;refine HJ.o.mono ?_;rintro e w9 ⟨rfl,hb9⟩;have Hb9:=Aa (Hbw.o.trans (hb9.mono Hbw.o.size));clear hb9;go_wp2_with fail;go_ret2;rw[Hout.o,HO.o,Hka.o];exact⟨by simp,Hb9.o⟩
theorem Qki{S:List Ty}(hS:∀t∈S,Do t){d:Nat}{k:Kd}{ks:List Vl}(h:Gb S (d+1) k (.mk 82 [] 0 ks))(hl:(Ay (.mk 82 [] 0 ks)).length<=400):Cq ((byN S k ks).map (fdT S d k))<=100000:=by
 have h1:=Rl hS _ _ _ h;have h2:Dj S (d+1) k (.mk 82 [] 0 ks)=123::(Am 44 ((byN S k ks).map (fdT S d k))++[125]):=by simp[Dj,Vl.what,Vl.kids];rfl
 rw[h2]at h1;simp only[List.length_cons,ah,Bg,List.length_nil]at h1;omega
theorem Qhx{S:List Ty}(hS:∀t∈S,Do t):∀d,Qkn S d:=by
 intro d;induction d with
 |zero=>intro k v h;cases h
 |succ d ih=>
  intro k v hv hk hl P p sl xs w hsc hxs hiv;have hbd:=Qa4 hS _ k v hv aG;obtain⟨q,_,hq,_⟩:=hsc.map;have hv':=hv;cases hv with
  |n hs hb h=>rw[K0 bC bC];exact Sh P p q hq k hs bE _ hbd sl w hiv
  |t hs hb h=>rw[K0 bC bC];exact Sh P p q hq k hs bE _ hbd sl w hiv
  |f hs hb=>rw[K0 bC bC];exact Sh P p q hq k hs bE _ hbd sl w hiv
  |@lst _ _ r ks hs h20 h=>exact Qfq hS d ih k r hs hk ks h20 h hl P p sl xs w hsc hxs hiv
  |@non _ _ r hs=>exact Qbf hS d ih k r hs hk [] (.inl rfl) hl P p sl xs w hsc hxs hiv
  |@som _ _ r x hs h=>exact Qbf hS d ih k r hs hk [x] (.inr ⟨x,rfl,h⟩) hl P p sl xs w hsc hxs hiv
  |@enm _ _ t f hs hb ht h9 hf=>
   obtain⟨x,hx,rfl⟩:=Ti (hxs.symm ▸ ht);exact Qi5 hS d k hs hb hk f P p sl xs w hsc hxs x hx h9 hf hiv
  |@uni _ _ t f y hs hb ht h5 hf h=>
   obtain⟨x,hx,rfl⟩:=Ti (hxs.symm ▸ ht);exact Qh5 hS d ih k hs hb hk f y h hl P p sl xs w hsc hxs x hx h5 hf hiv
  |@rcd _ _ t fs hs hb ht h2 hf h hn hp=>
   obtain⟨x,hx,rfl⟩:=Ti (hxs.symm ▸ ht);have hnm:=Qhl hS ht hf hp;have hfew:=Tc hS ht hf hp;refine Qic hS d ih k hs hb hk (fs.map C5) P p sl xs w hsc hxs x hx h2 (fun y hy=>?_) (by simpa using hfew) ?_ (Qki hS hv' hl) hiv
   ·obtain⟨c,hc,rfl⟩:=aw.1 hy;have hfo:=(hS x.ty (Be ht).1).2.2.1.1 c.1 (Bi (hf c hc)).2;have h3:=Mo (ao (f:=fun p=>Ay (C5 p)) hc);simp only[J8]at h3;rw[No]at hl;simp only[List.length_cons,ah,Bg,List.length_nil]at hl;exact⟨c.1,c.2,rfl,hf c hc,Dp ht (hf c hc),Cv ht (hf c hc),rfl,h c hc,(Py hS ht cj (Bi (hf c hc)).2).1,by omega,(C7.1 hfo.2.2.1).2.1,by have:=hfo.2.1;show c.1.tag<=_;omega⟩
   rw[List.pairwise_map];refine List.Pairwise.imp_of_mem (fun {p q} hp1 hq1 h e=>?_) hp;have:=hnm _ (ao hp1) _ (ao hq1) e;have h2:p.1.tag=q.1.tag:=congrArg Vl.tag this;omega
theorem Qmx(s d x:List UInt8)(w:World)(HG:Calls prog 17 #[s,d,x] w (Qoq (Cx s d) x w)):
  Calls prog 9 #[s,d,x] w (Qw (vlB (Cx s d) x Qx) w):=by
 have HG:=Aa HG;go_enter func9,ntmps9;go_wp2_with fail;refine HG.o.mono ?_;rintro e w1 ⟨⟨p,k1,k2,k3,v,sl,rfl,hs1,hy⟩,hb1⟩;obtain⟨A1,c1,rfl⟩:=hs1.form;have Hb1:=Aa hb1;cases hv:Zl (Cx s d) x with
 |none=>
  have HV:=Aa (Qha (f:=Qx) hv);rw[Option.isSome_none];unfold Gy;clear hs1 hb1 hy hv HG;go_wp2_with fail;go_ret2;refine⟨by rw[HV.o];rfl,?_⟩;have h:=Hb1.o;exact(h.alloc h.size _).alloc (by simp;have:=h.size;omega) _
 |some y=>
  obtain⟨rfl,S,k,xs,hbo,rfl,rfl,rfl,rfl,hsc⟩:=hy y hv;obtain⟨S',k',e1,hok,hk,href,hkd,hvok,hpr,hxl⟩:=Qbg hv;rw[hbo]at e1;injection e1 with e1;injection e1 with e1 e2;subst e1 e2;have hS:=hok.1.1
  have HE:=Aa (show vlB (Cx s d) x Qx=Qx (Af xs) k v by
   rw[hbo];have h:Kz (Af xs) k x=some v:=by rw[hbo]at hv;exact hv
   simp[vlB,h])
  have HF:=Aa (fun W (hW:Below w1 w1 W)=>Qhx hS 12 k v hvok hk (by rw[hpr];exact hxl) _ (.pointer p) (.slice A1 v.kids.length c1) xs W (hsc.below hW) rfl (hs1.after hW));have HT:=Aa (fun h=>Qgg (S:=Af xs) hvok h);rw[Option.isSome_some];unfold Ey Gy at HF;unfold Gy;generalize Mn (Af xs) 12 k v=tx at *;obtain⟨okm,hokm⟩:∃o,o=Cp (Af xs) 12 k v:=⟨_,rfl⟩
  rw[<-hokm]at HF HT;have Hok:=Aa hokm;clear hs1 hb1 hy hv HG hbo hok hk href hkd hvok hpr hxl hsc hS hokm;go_wp2_with fail;generalize hwg:World.alloc (World.alloc w1 _) _=w2;have hb2:Below w1 w1 w2:=by rw[<-hwg];exact((Aw _ _).alloc (Ar _) _).alloc aL _
  have Hb2:=Aa hb2;clear hwg hb2;refine(HF.o w2 Hb2.o).mono ?_;rintro e w3 ⟨rfl,hb3⟩;have Hb3:=Aa (Hb1.o.trans ((Hb2.o.trans (hb3.mono Hb2.o.size)).mono Hb1.o.size));clear hb3;cases okm with
  |true=>
   have HT2:=Aa (HT.o rfl);have HE2:=Aa (show vlB (Cx s d) x Qx=some tx by rw[HE.o,HT2.o];exact Qk1 Hok.o.symm);go_wp2_with fail;go_ret2;exact⟨by rw[HE2.o];rfl,Hb3.o⟩
  |false=>
   have HE2:=Aa (show vlB (Cx s d) x Qx=none by rw[HE.o];exact Qlr Hok.o.symm);go_wp2_with fail;go_ret2;exact⟨by rw[HE2.o];rfl,Hb3.o⟩
def Sb(o:Option Vl)(w:World)(e:Ending)(w':World):Prop:=
 (∃v sl,e=.returned (.tuple #[Gy v sl,.bool o.isSome])/\Dt (fun b=>w.heap.size<=b) w' sl v.kids/\∀x,o=some x->v=x)/\Below w w w'
theorem Sb.no{o:Option Vl}{w w':World}{e:Ending}(ho:o=none)(he:e=.returned (.tuple #[Gy Fp (.slice none 0 0),.bool false]))(hb:Below w w w'):Sb o w e w':=by
 subst ho;exact⟨⟨Fp,_,he,Dt.nil _ _,by simp⟩,hb⟩
theorem Qif(p:Value)(XS:List PT)(hS:Nv (Af XS))(k:Kd)(hk:Ch k)(hr:Ce (Af XS) k)(s:List UInt8)(w:World)(hsc:Q7 w p XS)(hs:s.length<=4000000):
  Calls prog 34 #[p,Ey k,s] w (Sb (Kz (Af XS) k s) w):=by
 have hTy:∀t∈Af XS,Do t:=hS.1.1;by_cases hl:400<s.length
 ·have HQ:=Aa (show Kz (Af XS) k s=none by unfold Kz;rw[if_pos hl]);have t1:decide ((400:Int)<(s.length:Int))=true:=aC aG;have TH:=Dk (w.alloc (.cells #[k.signs,k.base,k.name] 39)) [.int .u8 0,aa,.int .i64 0,.slice none 0 0] 42;simp at TH;have BL:Below w w ((w.alloc (.cells #[k.signs,k.base,k.name] 39)).alloc (.cells #[.int .u8 0,aa,.int .i64 0,.slice none 0 0] 42)):=((Aw _ _).alloc (Ar _) _).alloc aL _;unfold Ey;go_enter func34,ntmps34;go_wp2_with ((with_reducible refine Ad (op:=⟨none,.store 42 _ _,_,_,_,none⟩) rfl 42 _ _ rfl (w.heap.size+1) 0 [.int .u8 0,aa,.int .i64 0,.slice none 0 0] ?_ ?_ ?_ ?_ ?_ ?_);rfl;rfl;(exact TH);kernel_rfl;(simp[Eg,Value.oneCell']);intro w9 HS9)
  have HZ:=(by rw[HS9.o];exact ab _ _ _ _ (TH):w9.rangeAt (w.heap.size+1) 0 (Eg Fp (.slice none 0 0)))
  refine aE (v:=.tuple #[.agg (Eg Fp (.slice none 0 0)).toArray,.bool false]) (Ax results34 _ _ (w.heap.size+1) _ _ _ rfl rfl HZ underlying42 rfl aM) rfl ?_;exact Sb.no HQ.o rfl (by rw[HS9.o];exact Ao _ aG _ _ _ BL)
 have HQ0:=Aa (Qid hTy hk (by omega:s.length<=400) 1000 500 aG aG);have t1:decide ((400:Int)<(s.length:Int))=false:=aB aG;have HG:=Aa (fun v r=>Gn hTy 1000 500 k s v r hk);have HV:=Aa (fun w0 b (h0:Q7 w0 p XS) hb W (hW:Below w0 w0 W) (h2:D9 W b p s false)=>Yg w0 b p XS h0 hS hb 500 aG k hk hr s false W hW h2 aG (fun _=>by omega));simp only[an,if_false]at HV;generalize Kz (Af XS) k s=q at *;generalize hrd:Ap (Af XS) 1000 500 k s=rd at *;have Hsc:=Aa hsc;obtain⟨pb,_,_,_,rfl,_⟩:=hsc;unfold Ey at HV ⊢;clear hrd hS hk hr hTy;go_enter func34,ntmps34;go_wp2_with fail;obtain⟨W1,hW1⟩:∃W1,W1=(w.alloc (.cells #[k.signs,k.base,k.name] 39)).alloc (.cells #[.int .u8 0,aa,.int .i64 0,.slice none 0 0] 42):=⟨_,rfl⟩
 rw[<-hW1];have hz1:W1.heap.size=w.heap.size+2:=di;have B1:=Aa (show Below w w W1 by rw[hW1];exact((Aw _ _).alloc (Ar _) _).alloc aL _);have T1:=Aa (show W1.there (w.heap.size+1) 0 4 by rw[hW1];have:=Dk (w.alloc (.cells #[k.signs,k.base,k.name] 39)) [.int .u8 0,aa,.int .i64 0,.slice none 0 0] 42;simpa using this);clear hW1;obtain⟨W2,hW2⟩:∃W2,W2=W1.alloc (.cells #[pb,s,.bool false] 56):=⟨_,rfl⟩
 have hb2:Below W1 W1 W2:=gP;have S2:=@Aa (D9 W2 W1.heap.size pb s false) (by rw[hW2];exact⟨by simp,Pi.new _ _ _,by simp,by simp,by simp⟩);rw[hz1]at S2;rw[<-hW2];refine(HV.o W1 (w.heap.size+1+1) (Hsc.o.below B1.o) aG W2 hb2 S2.o).mono ?_;rintro e w3 ⟨v,sl,t',rfl,hk3,hs3,hx3,hB3,hl3,hn3⟩;obtain⟨A7,c7,rfl⟩:=hk3.form;have hz2:W1.heap.size<W2.heap.size:=by rw[hW2];simp
 have T3:=Aa (J1 (Bc T1.o aG hb2) hs3.2 aG aL);have B3:=@Aa (Below w w w3) ((B1.o.trans (hb2.mono aG)).grown hs3.2 aG (fun k e=>by injection e with e;omega));have S3:=Aa hs3.1;have hz3:W2.heap.size<=w3.heap.size:=hs3.2.size;have Hk3:=Aa hk3;have Hx3:=Aa hx3;have T4:=Aa (fun o=>Bc T3.o aG ((Aw w3.heap.size w3).alloc (Ar _) o));have B4:=Aa (fun o=>B3.o.alloc B3.o.size o);clear hs3 hk3 hx3 HV hW2 hb2 T1 B1 hB3;unfold Gy;have c1:=S3.o.2.2.2.1;have c2:=S3.o.2.2.2.2;have hbw:=S3.o.1;have hbn:¬(w.heap.size+1+1=w3.heap.size):=aG;cases rd with
 |none=>
  have HQ:=@Aa (q=none) HQ0.o;simp only[Option.isNone_none]at c2;go_wp2_with ((with_reducible refine Ad (op:=⟨none,.store 42 _ _,_,_,_,none⟩) rfl 42 _ _ rfl (w.heap.size+1) 0 [.int .u8 0,aa,.int .i64 0,.slice none 0 0] ?_ ?_ ?_ ?_ ?_ ?_);rfl;rfl;(exact T4.o _);kernel_rfl;(simp[Eg,Value.oneCell']);intro w9 HS9)
  have HZ:=(by rw[HS9.o];exact ab _ _ _ _ (T4.o _):w9.rangeAt (w.heap.size+1) 0 (Eg Fp (.slice none 0 0)))
  refine aE (v:=.tuple #[.agg (Eg Fp (.slice none 0 0)).toArray,.bool false]) (Ax results34 _ _ (w.heap.size+1) _ _ _ rfl rfl HZ underlying42 rfl aM) rfl ?_;exact Sb.no HQ.o rfl gg
 |some y=>
  obtain⟨v0,r⟩:=y;obtain⟨rfl,rfl⟩:=Hx3.o _ rfl;have hv:=(HG.o v t' rfl).1;simp only[Option.isNone_some]at c2;have hd5:Md v<=500:=(Fb _ _ _ _ hv 500).1 hv;have HD:=Aa (fun W (h:Below w3 w3 W)=>Qa2 _ hv.dw (.slice A7 v.kids.length c7) W (Hk3.o.after h) aG);unfold Gy at HD;cases ht:t' with
  |cons c u=>
   rw[ht]at HQ0 c1;have HQ:=@Aa (q=none) HQ0.o;clear ht;go_wp2_with ((with_reducible refine Ad (op:=⟨none,.store 42 _ _,_,_,_,none⟩) rfl 42 _ _ rfl (w.heap.size+1) 0 [.int .u8 0,aa,.int .i64 0,.slice none 0 0] ?_ ?_ ?_ ?_ ?_ ?_);rfl;rfl;(exact T4.o _);kernel_rfl;(simp[Eg,Value.oneCell']);intro w9 HS9)
   have HZ:=(by rw[HS9.o];exact ab _ _ _ _ (T4.o _):w9.rangeAt (w.heap.size+1) 0 (Eg Fp (.slice none 0 0)))
   refine aE (v:=.tuple #[.agg (Eg Fp (.slice none 0 0)).toArray,.bool false]) (Ax results34 _ _ (w.heap.size+1) _ _ _ rfl rfl HZ underlying42 rfl aM) rfl ?_;exact Sb.no HQ.o rfl gg
  |nil=>
   rw[ht]at HQ0 c1;have HQ1:=@Aa (q=if Md v<=12 then some v else none) HQ0.o;clear ht hv;go_wp2_with fail;refine(HD.o _ ((Aw _ _).alloc (Ar _) _)).mono ?_;rintro e w5 ⟨rfl,hb5⟩;have hb5':Below w3 w3 w5:=((Aw w3.heap.size w3).alloc (Ar _) _).trans (hb5.mono aL);have T5:=Aa (Bc T3.o aG hb5');have B5:=Aa (B3.o.trans (hb5'.mono B3.o.size));have X5:=Aa (Au (Ca w3 (Eg v (.slice A7 v.kids.length c7)) 42) aL hb5);have hz5:=hb5'.size;have d0:=Ab X5.o 0 rfl;have d1:=Ab X5.o 1 rfl;have d2:=Ab X5.o 2 rfl;have d3:=Ab X5.o 3 rfl;simp only[am]at d0 d1 d2 d3;have Hk5:=Aa (Hk3.o.after hb5');clear hb5 hb5';by_cases h12:Md v<=12
   ·have t2:decide ((12:Int)<(Md v:Int))=false:=aB aG;have HQ:=Aa (show q=some v by rw[HQ1.o,if_pos h12]);clear HQ1 HQ0;generalize Md v=n at *;go_wp2_with ((with_reducible refine Ad (op:=⟨none,.store 42 _ _,_,_,_,none⟩) rfl 42 _ _ rfl (w.heap.size+1) 0 (Eg v (.slice A7 v.kids.length c7)) ?_ ?_ ?_ ?_ ?_ ?_);rfl;rfl;(exact T5.o);kernel_rfl;(simp[Eg,Value.oneCell']);intro w9 HS9)
    have HZ:w9.rangeAt (w.heap.size+1) 0 (Eg v (.slice A7 v.kids.length c7)):=by rw[HS9.o];exact ab _ _ _ _ T5.o
    refine aE (v:=.tuple #[.agg (Eg v (.slice A7 v.kids.length c7)).toArray,.bool true]) (Ax results34 _ _ (w.heap.size+1) _ _ _ rfl rfl HZ underlying42 rfl aM) rfl ?_;rw[HQ.o,HS9.o];exact⟨⟨v,_,rfl,(Hk5.o.set (B:=w.heap.size+1) aG _).mono (fun c hc _=>by omega),by simp⟩,Ao _ aG _ _ _ B5.o⟩
   have t2:decide ((12:Int)<(Md v:Int))=true:=aC aG;have HQ:=Aa (show q=none by rw[HQ1.o,if_neg h12]);clear HQ1 HQ0;generalize Md v=n at *;go_wp2_with ((with_reducible refine Ad (op:=⟨none,.store 42 _ _,_,_,_,none⟩) rfl 42 _ _ rfl (w.heap.size+1) 0 [.int .u8 0,aa,.int .i64 0,.slice none 0 0] ?_ ?_ ?_ ?_ ?_ ?_);rfl;rfl;(exact T5.o);kernel_rfl;(simp[Eg,Value.oneCell']);intro w9 HS9)
   have HZ:=(by rw[HS9.o];exact ab _ _ _ _ (T5.o):w9.rangeAt (w.heap.size+1) 0 (Eg Fp (.slice none 0 0)))
   refine aE (v:=.tuple #[.agg (Eg Fp (.slice none 0 0)).toArray,.bool false]) (Ax results34 _ _ (w.heap.size+1) _ _ _ rfl rfl HZ underlying42 rfl aM) rfl ?_;exact Sb.no HQ.o rfl (by rw[HS9.o];exact Ao _ aG _ _ _ B5.o)
section
variable {P:Program}
theorem Rt{fn:Func}{r p p2 q:Tmp}{ty ty2:TypeId}(h:fn.results=#[.tmp r,.cell p ty,.cell p2 ty2,.tmp q])(tmps:Array Value)(w:World)(b b2:Nat)(cs cs2:List Value)(d d2:TypeDesc)(y x:Value)
  (hr:tmps.getD r undef=y) (hp:tmps.getD p undef=b) (hp2:tmps.getD p2 undef=b2) (hq:tmps.getD q undef=x) (hc:w.rangeAt b 0 cs) (hc2:w.rangeAt b2 0 cs2)
  (hu:P.underlying ty=some d) (hd:d.isRow=true) (hi:(P.info? ty).map (·.size)=some cs.length) (hu2:P.underlying ty2=some d2) (hd2:d2.isRow=true) (hi2:(P.info? ty2).map (·.size)=some cs2.length):
  (results fn tmps).run P w=.ok (.tuple #[y,.agg cs.toArray,.agg cs2.toArray,x]) w:=by
 have hp':tmps[p]?.getD undef=b:=ft;have hp2':tmps[p2]?.getD undef=b2:=by simpa using hp2
 have hq':tmps[q]?.getD undef=x:=by simpa using hq
 have hr':tmps[r]?.getD undef=y:=fw;simp[results,h,hp',hp2',hq',hr',asAddr,run_loadVar_mid w b 0 ty cs d hc hu hd hi,run_loadVar_mid w b2 0 ty2 cs2 d2 hc2 hu2 hd2 hi2]
end
theorem Zg.low{lo lo':Nat}{w:World}{p:Value}{xs:List PT}(h:Zg lo w p xs)(hl:lo'<=lo):Zg lo' w p xs:=by
 obtain⟨b,A,c,mb,e,h0,h1,h2,h3,h4,h5,h6,l1,l2,l3,l4⟩:=h;exact⟨b,A,c,mb,e,h0,h1,h2,h3,h4,h5,h6,by omega,by omega,fun g o hn e=>by have:=l3 g o hn e;omega,fun x hx=>⟨by have:=(l4 x hx).1;omega,fun k hn hk=>by have:=(l4 x hx).2 k hn hk;omega⟩⟩
def Vm(o:Option (List Ty × Kd))(x:List UInt8)(w:World)(e:Ending)(w':World):Prop:=
 (∃p k1 k2 k3 v sl,e=.returned (.tuple #[.pointer p,.agg #[.string k1,.string k2,.string k3],Gy v sl,.bool (Zl o x).isSome])/\Dt (fun c=>w.heap.size<=c) w' sl v.kids /\
  ∀y,Zl o x=some y->v=y/\∃S k xs,o=some (S,k)/\Af xs=S/\k1=⟨k.signs.toArray⟩/\k2=⟨k.base.toArray⟩/\k3=⟨k.name.toArray⟩/\Zg w.heap.size w' (.pointer p) xs)/\Below w w w'
theorem Vm.no{o:Option (List Ty × Kd)}{x:List UInt8}{w w':World}{e:Ending}(ho:Zl o x=none){p:Option Addr}{k1 k2 k3:ByteArray}{v:Vl}{sl:Value}(he:e=.returned (.tuple #[.pointer p,.agg #[.string k1,.string k2,.string k3],Gy v sl,.bool false]))(hs:Dt (fun c=>w.heap.size<=c) w' sl v.kids)(hb:Below w w w'):Vm o x w e w':=by
 refine⟨⟨p,k1,k2,k3,v,sl,by rw[ho];exact he,hs,fun y hy=>?_⟩,hb⟩;rw[ho]at hy;cases hy
theorem Qgl(s d x:List UInt8)(w:World)(hs:s.length<=4000000)(hd:d.length<=4000000)(hx:x.length<=4000000):
  Calls prog 17 #[s,d,x] w (Vm (Cx s d) x w):=by
 have Hbo:=Aa (fun W=>Qbi s d W hs hd);have HGo:=Aa (fun S k (h:Cx s d=some (S,k))=>Jz h);generalize Cx s d=o at *;go_enter func17,ntmps17;go_wp2_with fail;obtain⟨W1,hW1⟩:∃W1,W1=(w.alloc (.cells #[aa,aa,aa] 39)).alloc (.cells #[.int .u8 0,aa,.int .i64 0,.slice none 0 0] 42):=⟨_,rfl⟩
 rw[<-hW1];have hz1:W1.heap.size=w.heap.size+2:=di;have B1:=Aa (show Below w w W1 by rw[hW1];exact((Aw _ _).alloc (Ar _) _).alloc aL _);have TK1:=Aa (show W1.there w 0 3 by rw[hW1];exact aq (Dk w [aa,aa,aa] 39) _);have TV1:=Aa (show W1.there (w.heap.size+1) 0 4 by rw[hW1];have:=Dk (w.alloc (.cells #[aa,aa,aa] 39)) [.int .u8 0,aa,.int .i64 0,.slice none 0 0] 42;simpa using this);clear hW1;refine(Hbo.o W1).mono ?_;rintro e W2 ⟨hcase,hb2⟩;have hz2:=hb2.size;have TK2:=Aa (Bc TK1.o aG hb2);have TV2:=Aa (Bc TV1.o aG hb2);have B2:=Aa (B1.o.trans (hb2.mono aG));clear hb2;cases o with
 |none=>
  obtain⟨p,a,b,c,rfl⟩:=hcase;obtain⟨W3,hW3⟩:∃W3,W3=W2.alloc (.cells #[.string a,.string b,.string c] 39):=⟨_,rfl⟩
  have hb3:Below W2 W2 W3:=eN;have TK3:=Aa (Bc TK2.o aG hb3);have TV3:=Aa (Bc TV2.o aG hb3);have B3:=Aa (B2.o.trans (hb3.mono B2.o.size));have HW3:=Aa hW3;clear hb3 hW3;go_wp2_with (first|((with_reducible refine Ad (op:=⟨none,.store 39 _ _,_,_,_,none⟩) rfl 39 _ _ rfl w 0 [aa,aa,aa] ?_ ?_ ?_ ?_ ?_ ?_);rfl;rfl;(rw[<-HW3.o];exact TK3.o);kernel_rfl;(simp[Value.oneCell']);intro w8 HS8)|((with_reducible refine Ad (op:=⟨none,.store 42 _ _,_,_,_,none⟩) rfl 42 _ _ rfl (w.heap.size+1) 0 [.int .u8 0,aa,.int .i64 0,.slice none 0 0] ?_ ?_ ?_ ?_ ?_ ?_);rfl;rfl;(rw[HS8.o,<-HW3.o];exact ai TV3.o _ _ _);kernel_rfl;(simp[Value.oneCell']);intro w9 HS9))
  rw[<-HW3.o]at HS8;have TV8:=Aa (show w8.there (w.heap.size+1) 0 4 by rw[HS8.o];exact ai TV3.o _ _ _);have RK8:=Aa (show w8.rangeAt w 0 [aa,aa,aa]by rw[HS8.o];exact ab _ _ _ _ TK3.o);have B8:=Aa (show Below w w w8 by rw[HS8.o];exact Ao _ (Ar _) _ _ _ B3.o);have RK9:=(by rw[HS9.o];exact ak RK8.o _ _ _ (.inl aG):w9.rangeAt w 0 [aa,aa,aa])
  have RV9:=(by rw[HS9.o];exact ab _ _ _ _ TV8.o:w9.rangeAt (w.heap.size+1) 0 [.int .u8 0,aa,.int .i64 0,.slice none 0 0])
  refine aE (v:=.tuple #[.pointer none,.agg ([aa,aa,aa]:List Value).toArray,.agg ([.int .u8 0,aa,.int .i64 0,.slice none 0 0]:List Value).toArray,.bool false]) ?_ rfl ?_
  ·exact Rt results17 _ _ w.heap.size (w.heap.size+1) _ _ _ _ _ _ rfl rfl rfl rfl RK9 RV9 underlying39 rfl aM underlying42 rfl aM
  exact Vm.no (v:=Fp) (sl:=.slice none 0 0) rfl rfl (Dt.nil _ _) (by rw[HS9.o];exact Ao _ aG _ _ _ B8.o)
 |some y=>
  obtain⟨S,k⟩:=y;obtain⟨p,xs,rfl,rfl,hsl⟩:=hcase;obtain⟨g1,_,_,g4,_,g6⟩:=HGo.o _ k rfl;have Hsl:=@Aa (Zg (w.heap.size+2) W2 p xs) (by rw[<-hz1];exact hsl);obtain⟨pb,_,_,_,rfl,_⟩:=hsl;have Hrd:=Aa (fun W (h:Q7 W pb xs)=>Qif pb xs g1 k g4 g6 x W h hx);have HV:=@Aa (Zl (some (Af xs,k)) x=Kz (Af xs) k x) rfl;generalize Kz (Af xs) k x=o at *;clear g1 g4 g6 HGo Hbo;obtain⟨W3,hW3⟩:∃W3,W3=W2.alloc (.cells #[k.signs,k.base,k.name] 39):=⟨_,rfl⟩
  have hb3:Below W2 W2 W3:=eN;have TK3:=Aa (Bc TK2.o aG hb3);have TV3:=Aa (Bc TV2.o aG hb3);have B3:=Aa (B2.o.trans (hb3.mono B2.o.size));have SL3:=Aa (Hsl.o.below hb3);have RS3:=Aa (show W3.rangeAt W2 0 [k.signs,k.base,k.name]by rw[hW3];exact Ca W2 [k.signs,k.base,k.name] 39);have hz3:W3.heap.size=W2.heap.size+1:=fM;have HW3:=Aa hW3;clear hb3 hW3;unfold Ey at Hrd ⊢;go_wp2_with fail;rw[<-HW3.o];refine(Hrd.o W3 SL3.o.isc).mono ?_;rintro e W4 ⟨⟨vl,sl,rfl,hs4,hx4⟩,hb4⟩;obtain⟨A4,c4,rfl⟩:=hs4.form;have hz4:=hb4.size;have Hx4:=Aa hx4;obtain⟨W5,hW5⟩:∃W5,W5=W4.alloc (.cells #[.int .u8 (vl.what.toNat:Int),vl.text,(vl.tag:Int),.slice A4 vl.kids.length c4] 42):=⟨_,rfl⟩
  have hb45:Below W4 W4 W5:=gQ;have hb5:Below W3 W3 W5:=hb4.trans (hb45.mono hb4.size);have TK5:=Aa (Bc TK3.o aG hb5);have TV5:=Aa (Bc TV3.o aG hb5);have B5:=Aa (B3.o.trans (hb5.mono B3.o.size));have SL5:=Aa (SL3.o.below hb5);have RS5:=Aa (Au RS3.o aG hb5);have RV5:=Aa (show W5.rangeAt W4 0 (Dl (vl,.slice A4 vl.kids.length c4))by rw[hW5];exact Ca W4 (Dl (vl,.slice A4 vl.kids.length c4)) 42);have HS5:=Aa ((hs4.after hb45).mono (Q:=fun c=>w.heap.size+2<=c) fun c hc _=>by have:W3.heap.size<=c:=hc;omega);have HW5:=Aa hW5;have hz5:W4.heap.size<W5.heap.size:=by rw[hW5];simp
  clear hW5 hb45 hb5 hb4 hs4 hx4 Hrd;unfold Gy;go_upto_region 5 with fail
  rw[<-HW5.o];refine Qr [32,33,34,35,6,999,998,9]
   (fun ix v W=>match ix with|0=>v=pb|1=>v=.agg #[k.signs,k.base,k.name]|2=>v=.agg #[.int .u8 (vl.what.toNat:Int),vl.text,(vl.tag:Int),.slice A4 vl.kids.length c4]|3=>v=.bool o.isSome|4=>v=pb|7=>v=.bool o.isSome|_=>True)
   (fun L U W=>Below w w W/\W.there w 0 3/\W.there (w.heap.size+1) 0 4/\W.rangeAt W2 0 [k.signs,k.base,k.name]/\W.rangeAt W4 0 (Dl (vl,.slice A4 vl.kids.length c4))/\Zg (w.heap.size+2) W pb xs/\Dt (fun c=>w.heap.size+2<=c) W (.slice A4 vl.kids.length c4) vl.kids/\(L 5=true->W.rangeAt w 0 [k.signs,k.base,k.name])/\(L 6=true->W.rangeAt (w.heap.size+1) 0 (Dl (vl,.slice A4 vl.kids.length c4)))) (⟨B5.o.drew,by simpa using TK5.o,by simpa using TV5.o,by simpa using RS5.o,by simpa using RV5.o,SL5.o.below ((Aw _ _).drew),HS5.o.after ((Aw _ _).drew),fun h=>Bool.noConfusion h,fun h=>Bool.noConfusion h⟩) ?_ ?_
  ·repeat (first|exact Av.nil|(refine Av.cons ?_ ?_;rotate_left))
   all_goals
    rintro L U W hL hpre HR Hdep K hK;obtain⟨r1,r2,r3,r4,r5,r6,r7,r8,r9⟩:=HR.o;have c0:W.cell? (W2,0)=k.signs:=by simpa using Ab r4 0 rfl
    have c1:W.cell? (W2,1)=k.base:=by simpa using Ab r4 1 rfl
    have c2:W.cell? (W2,2)=k.name:=by simpa using Ab r4 2 rfl
    have d0:W.cell? (W4,0)=some (.int .u8 (vl.what.toNat:Int)):=by simpa using Ab r5 0 rfl
    have d1:W.cell? (W4,1)=vl.text:=by simpa using Ab r5 1 rfl
    have d2:W.cell? (W4,2)=(vl.tag:Int):=by simpa using Ab r5 2 rfl
    have d3:W.cell? (W4,3)=some (.slice A4 vl.kids.length c4):=by simpa using Ab r5 3 rfl
    first|(simp[Region.binds]at hpre;done)|simp[Region.binds]at hpre|clear hpre
   iterate 5
    ·exact ir
   ·have u1:U 1=.agg #[k.signs,k.base,k.name]:=dX;rw[if_pos bQ];refine wp_store_mid 39 _ _ rfl w 0 ([k.signs,k.base,k.name]:List Value).toArray rfl u1 r2 aM bB ?_;exact hK undef _ _ Ac Ac ⟨Ao _ (Ar _) _ _ _ r1,ai r2 _ _ _,ai r3 _ _ _,ak r4 _ _ _ (.inl aG),ak r5 _ _ _ (.inl aG),r6.far (E0 _ _ _ W) aG,r7.grown (E0 _ _ _ W) (fun b hb e=>by injection e with e;have:w.heap.size+2<=b:=hb;omega),fun _=>ab _ _ _ _ r2,fun h=>ak (r9 h) _ _ _ (.inl aG)⟩ rfl
   ·have u1:U 2=.agg #[.int .u8 (vl.what.toNat:Int),vl.text,(vl.tag:Int),.slice A4 vl.kids.length c4]:=dX;rw[if_pos bQ];refine wp_store_mid 42 _ _ rfl (w.heap.size+1) 0 (Dl (vl,.slice A4 vl.kids.length c4)).toArray rfl u1 r3 aM fY ?_;exact hK undef _ _ Ac Ac ⟨Ao _ aG _ _ _ r1,ai r2 _ _ _,ai r3 _ _ _,ak r4 _ _ _ (.inl aG),ak r5 _ _ _ (.inl aG),r6.far (E0 _ _ _ W) aG,r7.grown (E0 _ _ _ W) (fun b hb e=>by injection e with e;have:w.heap.size+2<=b:=hb;omega),fun h=>ak (r8 h) _ _ _ (.inl aG),fun _=>ab _ _ _ _ r3⟩ rfl
   ·exact ir
  rintro L U W hL hφ hR;have e4:U 4=pb:=hφ 4 aJ;have e7:U 7=.bool o.isSome:=hφ 7 aJ;simp only[e4,e7];clear hφ;obtain⟨r1,r2,r3,r4,r5,r6,r7,r8,r9⟩:=hR;have R1:=Aa r1;have R6:=Aa r6;have R7:=Aa r7;have R8:=Aa (r8 (hL 5 aJ));have R9:=Aa (r9 (hL 6 aJ));clear hL r1 r2 r3 r4 r5 r6 r7 r8 r9;go_wp2_with fail;refine aE (v:=.tuple #[pb,.agg ([k.signs,k.base,k.name]:List Value).toArray,.agg (Dl (vl,.slice A4 vl.kids.length c4)).toArray,.bool o.isSome]) ?_ rfl ?_
  ·exact Rt results17 _ _ w.heap.size (w.heap.size+1) _ _ _ _ _ _ rfl rfl rfl rfl R8.o R9.o underlying39 rfl aM underlying42 rfl aM
  refine⟨⟨_,_,_,_,vl,_,by rw[HV.o];rfl,R7.o.mono (fun c hc _=>by have:w.heap.size+2<=c:=hc;omega),fun y hy=>?_⟩,R1.o⟩;rw[HV.o]at hy;exact⟨Hx4.o y hy,_,k,xs,rfl,rfl,rfl,rfl,rfl,R6.o.low aG⟩
end
end Go.Proofs.YtkigmebejmmikaaGreatDoor
