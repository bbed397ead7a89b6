/- Texts joined. Conditions: as each theorem names them. -/
import Derived.Deep.CutRange
import Derived.Deep.DeepCutAuto
import Derived.Test.YtmmhmlmfhpfgbaaGreatDoorF36
import Derived.Test.YtmmhmlmfhpfgbaaGreatDoorF43
set_option maxRecDepth 100000
set_option maxHeartbeats 32000000
set_option linter.unusedVariables false
set_option linter.unusedSimpArgs false
namespace Go.Proofs.YtmmhmlmfhpfgbaaGreatDoor
open Go.RowKit Go.Proofs.Tryz
section
attribute [local go_sem] Qoe Qnf Qmu Qk2 ByteArray.mk_append_mk
theorem Qil(P:Nat->Prop)(w:World)(eb:Nat)(c0:UInt8)(sg ab an bb bn:List UInt8)(hsg:sg.length<=1000)(vv:Vl)(A2:Option Addr)(c2:Nat)(hiv:Ea P w (.slice A2 vv.kids.length c2) vv.kids)(KF:Vl->Vl × Bool)
  (HK:∀x∈vv.kids,∀W A n c,Below w w W->Ea P W (.slice A n c) x.kids->Calls prog 115 #[eb,D9 ⟨sg,ab,an⟩,D9 ⟨sg,bb,bn⟩,Ec x (.slice A n c)] W (Mu (KF x) W)):
  Calls prog 115 #[eb,D9 ⟨c0::sg,ab,an⟩,D9 ⟨c0::sg,bb,bn⟩,Ec vv (.slice A2 vv.kids.length c2)] w (Mu (.mk vv.what vv.text vv.tag (vv.kids.map fun x=>(KF x).1),vv.kids.any fun x=>(KF x).2) w):=by
 have hmf:∀(fn:Fn) (first cap:Array Value) (w:World),(Instr.makeFunc fn first cap).run prog w=.ok (.func fn first cap) w:=fun _ _ _ _=>rfl;obtain⟨W5,hW5⟩:∃W5,W5=((((w.alloc (.cells #[eb] 160)).alloc (.cells #[(c0::sg:List UInt8),ab,an] 60)).alloc (.cells #[(c0::sg:List UInt8),bb,bn] 60)).alloc (.cells #[.int .u8 (vv.what.toNat:Int),vv.text,(vv.tag:Int),.slice A2 vv.kids.length c2] 68)).alloc (.cells #[.int .u8 0,a6,.int .i64 0,.slice none 0 0] 68):=⟨_,rfl⟩
 obtain⟨W6,hW6⟩:∃W6,W6=W5.alloc (.cells #[.int .u8 (vv.what.toNat:Int),vv.text,(vv.tag:Int),.slice none 0 0] 68):=⟨_,rfl⟩
 obtain⟨W7,hW7⟩:∃W7,W7=W6.alloc (.cells #[.bool false] 4):=⟨_,rfl⟩
 have hz5:W5.heap.size=w.heap.size+5:=da;have hz6:W6.heap.size=w.heap.size+6:=by rw[hW6];simp;omega
 have hz7:W7.heap.size=w.heap.size+7:=by rw[hW7];simp;omega
 have hb5:Below w w W5:=gY;have hb56:Below W5 W5 W6:=ev;have hb67:Below W6 W6 W7:=gz
 have L7:=Aa (show LiS w W7 W7 (.int .u8 (vv.what.toNat:Int)) vv.text (vv.tag:Int) false (.slice none 0 0) []from by
  have hB:Qe W6 (w.heap.size+5):=by rw[hW6,<-hz5];exact Qe.new _ _ _
  have hc:∀o u,(#[.int .u8 (vv.what.toNat:Int),vv.text,(vv.tag:Int),.slice none 0 0]:Array Value)[o]?=some u->W7.cell? ⟨w.heap.size+5,o,none⟩=some u:=fun o u hu=>by
   exact lW
  refine⟨(hb5.trans (hb56.mono aH)).trans (hb67.mono aH),Ao _ _,⟨by omega,by omega,by omega,hB.belowAt aH hb67,hc 0 _ rfl,hc 1 _ rfl,hc 2 _ rfl,hc 3 _ rfl,World.ownsRow_nil _ _ _ _,by simp⟩,?_,?_⟩
  ·rw[hW7,<-hz6];simp[World.cell?_alloc_new]
  rw[hW7,<-hz6];simp[go_sem])
 have T5:=Aa (show W5.there (w.heap.size+4) 0 4 from by
  have h:=Bz ((((w.alloc (.cells #[eb] 160)).alloc (.cells #[(c0::sg:List UInt8),ab,an] 60)).alloc (.cells #[(c0::sg:List UInt8),bb,bn] 60)).alloc (.cells #[.int .u8 (vv.what.toNat:Int),vv.text,(vv.tag:Int),.slice A2 vv.kids.length c2] 68)) [.int .u8 0,a6,.int .i64 0,.slice none 0 0] 68;rw[<-hW5]at h;simpa using h)
 have T7:=Aa (Aj (Aj T5.o aH hb56) aH hb67);have hc57:∀b o,b<w.heap.size+5->W7.cell? ⟨b,o,none⟩=W5.cell? ⟨b,o,none⟩:=fun b o hb=>(hb67.cell (p:=⟨b,o,none⟩) (show b<W6.heap.size by omega)).trans (hb56.cell (p:=⟨b,o,none⟩) (show b<W5.heap.size by omega));have E0:=@Aa (W7.cell? (w,0)=eb) bO;have EA0:=@Aa (W7.cell? (w,1,0)=(c0::sg:List UInt8)) bO;have EA1:=@Aa (W7.cell? (w,1,1)=ab) bO;have EA2:=@Aa (W7.cell? (w,1,2)=an) bO;have EB0:=@Aa (W7.cell? (w,2,0)=(c0::sg:List UInt8)) bO;have EB1:=@Aa (W7.cell? (w,2,1)=bb) bO;have EB2:=@Aa (W7.cell? (w,2,2)=bn) bO;have EV3:=@Aa (W7.cell? (w,3,3)=some (.slice A2 vv.kids.length c2)) bO;clear hc57 hb5 hb56 hb67 hz5 hz6;have HK:=Aa HK;have Hiv:=Aa hiv;obtain⟨A',c',ks,hv,hkk,hl,hr,hP,hks⟩:=hiv;injection hv with hv1 hv2 hv3;subst hv1 hv3;have Hr:=Aa hr;have Hks:=Aa hks;have Hkk:=Aa hkk;have hkl:vv.kids.length<=1000:=aH;have Hkn:=@Aa (vv.kids.length=ks.length) (by simpa using hv2);clear hkk hr hP hks hv2 hl;unfold D9 Ec;go_enter func115,ntmps115;go_upto_region 4 with fail
 rw[<-hW5,<-hW6,<-hW7];clear hW5 hW6 hW7 T5;have e1:=EA0.o;have e2:=EV3.o;go_wp2_with fail;clear e1 e2;go_loopw [35] (fun ix wr=>∃(i:Nat) (A:Option Addr) (c:Nat) (l:Bool) (xs:List (Vl × Value)),ix=(i:Int)/\i<=vv.kids.length/\Hid (xs.map (·.1)=(vv.kids.take i).map fun x=>(KF x).1)/\Hid (l=(vv.kids.take i).any fun x=>(KF x).2)/\xs.length<=1000/\Hid (LiS w W7 wr (.int .u8 (vv.what.toNat:Int)) vv.text (vv.tag:Int) l (.slice A xs.length c) xs)) (fun ix _=>vv.kids.length - (intOf ix).toNat)
 case atStart=>exact⟨0,none,0,false,[],rfl,ag _,rfl,rfl,by simp,L7.o⟩
 case round=>
  obtain⟨i,A,c,l,xs,rfl,hi,Hxs,Hl,hxl,HL⟩:=hrel;have i0:(0:Int)<=(i:Int):=aH;by_cases hlt:i<vv.kids.length
  ·have i1:(i:Int)<(vv.kids.length:Int):=aH;have hik:i<ks.length:=by have:=Hkn.o;omega
   obtain⟨B2,o2,rfl,hBl,x0,x1,x2,x3⟩:=Ea.at_ Hr.o hik;have hxk:=Hks.o _ (ae hik);have hxe:vv.kids[i]=(ks[i]'hik).1:=by have:=Hkk.o;simp only[this,Bc];simp
   have hxm:(ks[i]'hik).1∈vv.kids:=hxe ▸ ae hlt;have Htk:=@Aa (vv.kids.take (i+1)=vv.kids.take i++[(ks[i]'hik).1]) (by rw[List.take_succ_eq_append_getElem hlt,hxe]);generalize ks[i]'hik=y at *;obtain⟨x,slx⟩:=y;simp only at x0 x1 x2 x3 hxk hxm Htk;obtain⟨A9,c9,rfl⟩:=hxk.form;have hBr:B2<wr.heap.size:=ac hBl HL.o.bel.size;have y0:=(HL.o.bel.cell (p:=⟨B2,o2+i*4,none⟩) hBl).trans x0;have y1:=(HL.o.bel.cell (p:=⟨B2,o2+i*4+1,none⟩) hBl).trans x1;have y2:=(HL.o.bel.cell (p:=⟨B2,o2+i*4+2,none⟩) hBl).trans x2;have y3:=(HL.o.bel.cell (p:=⟨B2,o2+i*4+3,none⟩) hBl).trans x3;obtain⟨W1,hW1⟩:∃W1,W1=wr.alloc (.cells #[.int .u8 (x.what.toNat:Int),x.text,(x.tag:Int),.slice A9 x.kids.length c9] 68):=⟨_,rfl⟩
   have hb1:Below wr wr W1:=gx;have HL1:=Aa (HL.o.after hb1);have Z0:=@Aa (W1.cell? (wr,0)=some (.int .u8 (x.what.toNat:Int))) dx;have Z1:=@Aa (W1.cell? (wr,1)=x.text) dx;have Z2:=@Aa (W1.cell? (wr,2)=(x.tag:Int)) dx;have Z3:=@Aa (W1.cell? (wr,3)=some (.slice A9 x.kids.length c9)) dx;have hzr:wr.heap.size<W1.heap.size:=cG;have Hx:=@Aa (Ea P w (.slice A9 x.kids.length c9) x.kids) hxk;have HCP:=@Aa (∀(ab an:List UInt8) W,Calls prog 86 #[D9 ⟨c0::sg,ab,an⟩] W fun e w'=>e=.returned (D9 ⟨sg,ab,an⟩)/\Below W W w') (fun ab an W=>Vr ⟨c0::sg,ab,an⟩ W c0 sg rfl hsg)
   have HC:=Aa (show ∀W,Below W1 W1 W->Calls prog 169 #[D9 ⟨sg,ab,an⟩,D9 ⟨sg,bb,bn⟩,Ec x (.slice A9 x.kids.length c9),w.heap.size,(w,6,0)] W (Qbq (KF x) l (w.heap.size+6) W)from fun W hW=>by
    have hL:=HL1.o.after hW;have hbs:w.heap.size+6<W.heap.size:=hL.st.bs;exact Qfh W eb w.heap.size (w.heap.size+6) aH hbs ((hL.keep.cell (p:=⟨w.heap.size,0,none⟩) (show w.heap.size<w.heap.size+5 by omega)).trans E0.o) l hL.c6 hL.f6 ⟨sg,ab,an⟩ ⟨sg,bb,bn⟩ x A9 _ c9 (KF x) fun W' hW'=>HK.o x hxm W' A9 _ c9 (hL.bel.trans (hW'.mono hL.bel.size)) (Hx.o.after (hL.bel.trans (hW'.mono hL.bel.size))))
   unfold D9 at HCP HC;unfold Ec at HC;clear x0 x1 x2 x3 hxk hxe hb1;go_upto_region 8 with fail
   rw[<-hW1];clear hW1 y0 y1 y2 y3;refine Jd [39,40,41,42,43,44,45,46,47,48,49,50,999]
    (fun ix v W=>match ix with|0=>v=(w,5,3)|1=>v=.slice A xs.length c|2=>v=.func (.func 169) #[] #[w.heap.size,(w,6,0)]|3=>v=.agg #[(c0::sg:List UInt8),ab,an]|4=>v=.agg #[sg,ab,an]|5=>v=.agg #[(c0::sg:List UInt8),bb,bn]|6=>v=.agg #[sg,bb,bn]|7=>v=.agg #[.int .u8 (x.what.toNat:Int),x.text,(x.tag:Int),.slice A9 x.kids.length c9]|11=>v=(w,5,3)|_=>True)
    (fun L U W=>M8 w W7 W1.drew (.int .u8 (vv.what.toNat:Int)) vv.text (vv.tag:Int) l A c xs (KF x) (L 8) (L 9) (L 10) (L 12) (U 8) (U 9) (U 10) W) (M8.start) ?_ ?_
   ·repeat (first|exact Ak.nil|(refine Ak.cons ?_ ?_;rotate_left))
    all_goals
     rintro L U W hL hpre HR Hdep K hK;first|(simp[Region.binds]at hpre;done)|simp[Region.binds]at hpre|clear hpre
    ·exact hD
    ·have h10:L 10=false:=Bb Hdep.o 10 1 rfl hL;have x3:=HR.o.c3 (HL1.o.after (Ao _ _).drew) h10;exact kL
    ·exact hD
    ·have h8:L 8=false:=Bb Hdep.o 8 4 rfl (Bb Hdep.o 4 3 rfl hL);have hLw:=(HL1.o.after (Ao _ _).drew).after (HR.o.s0 h8);have a0:=(hLw.keep.cell (p:=⟨w.heap.size+1,0,none⟩) (show w.heap.size+1<w.heap.size+5 by omega)).trans EA0.o;have a1:=(hLw.keep.cell (p:=⟨w.heap.size+1,1,none⟩) (show w.heap.size+1<w.heap.size+5 by omega)).trans EA1.o;have a2:=(hLw.keep.cell (p:=⟨w.heap.size+1,2,none⟩) (show w.heap.size+1<w.heap.size+5 by omega)).trans EA2.o;exact kL
    ·have h8:L 8=false:=Bb Hdep.o 8 4 rfl hL;have h9:L 9=false:=Bb Hdep.o 9 8 rfl h8;have h10:L 10=false:=Bb Hdep.o 10 9 rfl h9;have h12:L 12=false:=Bb Hdep.o 12 10 rfl h10;go_simp;refine(HCP.o ab an W).mono ?_;rintro e w5 ⟨rfl,hb5⟩;exact m9
    ·have h8:L 8=false:=Bb Hdep.o 8 6 rfl (Bb Hdep.o 6 5 rfl hL);have hLw:=(HL1.o.after (Ao _ _).drew).after (HR.o.s0 h8);have a0:=(hLw.keep.cell (p:=⟨w.heap.size+2,0,none⟩) (show w.heap.size+2<w.heap.size+5 by omega)).trans EB0.o;have a1:=(hLw.keep.cell (p:=⟨w.heap.size+2,1,none⟩) (show w.heap.size+2<w.heap.size+5 by omega)).trans EB1.o;have a2:=(hLw.keep.cell (p:=⟨w.heap.size+2,2,none⟩) (show w.heap.size+2<w.heap.size+5 by omega)).trans EB2.o;exact kL
    ·have h8:L 8=false:=Bb Hdep.o 8 6 rfl hL;have h9:L 9=false:=Bb Hdep.o 9 8 rfl h8;have h10:L 10=false:=Bb Hdep.o 10 9 rfl h9;have h12:L 12=false:=Bb Hdep.o 12 10 rfl h10;go_simp;refine(HCP.o bb bn W).mono ?_;rintro e w5 ⟨rfl,hb5⟩;exact m9
    ·have h8:L 8=false:=Bb Hdep.o 8 7 rfl hL;have z0:=((HR.o.s0 h8).cell (p:=⟨wr.heap.size,0,none⟩) aM).trans ((aB _ _).trans Z0.o);have z1:=((HR.o.s0 h8).cell (p:=⟨wr.heap.size,1,none⟩) aM).trans ((aB _ _).trans Z1.o);have z2:=((HR.o.s0 h8).cell (p:=⟨wr.heap.size,2,none⟩) aM).trans ((aB _ _).trans Z2.o);have z3:=((HR.o.s0 h8).cell (p:=⟨wr.heap.size,3,none⟩) aM).trans ((aB _ _).trans Z3.o);exact kL
    ·have h8:=hL;have h9:L 9=false:=Bb Hdep.o 9 8 rfl h8;have h10:L 10=false:=Bb Hdep.o 10 9 rfl h9;have h12:L 12=false:=Bb Hdep.o 12 10 rfl h10;go_simp;refine(HC.o _ ((Ao W1.heap.size W1).drew.trans ((HR.o.s0 h8).mono aK))).mono ?_;rintro e w5 ⟨sl5,rfl,hs5,hg5,hc5,hf5⟩;obtain⟨A5,c5,rfl⟩:=hs5.form;go_simp;exact hK (Ec (KF x).1 (.slice A5 (KF x).1.kids.length c5)) _ _ Ac Ac (M8.put8 (HR.o.s0 h8) (HL1.o.after (Ao _ _).drew) h9 h10 h12 hs5 hg5 hc5 hf5) eL
    ·have l8:L 8=true:=aL;have h10:L 10=false:=Bb Hdep.o 10 9 rfl hL;have h12:L 12=false:=Bb Hdep.o 12 10 rfl h10;obtain⟨sl5,u8,⟨A5,n5,c5,e5⟩,hn⟩:=HR.o.put9 l8 hL h10 h12;subst e5;unfold Ec at u8;unfold Ka at hn;simp only[u8];go_simp;exact hK _ _ _ Ac Ac hn (by simp[Act.put,hpre,u8])
    ·obtain⟨l1,u1⟩:L 1=true/\U 1=.slice A xs.length c:=by
      exact kY
     have l9:L 9=true:=bB;have l8:L 8=true:=Np (Bb Hdep.o 9 8 rfl) l9;have h12:L 12=false:=Bb Hdep.o 12 10 rfl hL;obtain⟨W8,sl5,hW,u9,hs8,hL8⟩:=HR.o.s2 l9 hL;subst hW;obtain⟨A5,c5,e5⟩:=hs8.form;rw[if_pos cr];refine Fp W8 (.tmp 40) (.tmp 48) 66 rfl (w.heap.size+7) 68 (.agg #[.int .u8 0,a6,.int .i64 0,.slice none 0 0]) 4 56 underlying66 Ya rfl aJ (Ka ((KF x).1,sl5)) rfl (Ye _ (by rw[e5];rfl)) (.slice A xs.length c) xs.length (xs.flatMap Ka) u1 u9 hL8.st.row aU aH hL8.st.bs ?_;intro v6 w6 hown hg hwh;obtain⟨hn,A6,c6,e6⟩:=M8.put10 (u8:=U 8) (u9:=U 9) hL8 (HL1.o.after (Ao _ _).drew) hs8 l8 l9 h12 hown hg hwh;exact lG
    ·exact hD
    ·have l10:L 10=true:=bB;have l9:L 9=true:=Np (Bb Hdep.o 10 9 rfl) l10;have l8:L 8=true:=Np (Bb Hdep.o 9 8 rfl) l9;obtain⟨sl5,A6,c6,e6,hK6,_⟩:=HR.o.s3 l10 hL;have x3:=hK6.c3;have x4:=hK6.bk.live 3;have x5:=hK6.lt;go_simp;exact hK undef _ _ Ac Ac (HR.o.put12 l8 l9 l10 hL (by rw[e6])) cB
   rintro L U W hL hφ hR;clear hφ;obtain⟨sl6,A6,c6,hL6⟩:=hR.s4 (hL 12 aJ);have HL6:=Aa hL6;clear hR hL hL6;have el:(xs++[((KF x).1,sl6)]).length=xs.length+1:=aK;have hxs9:xs.length<=999:=by
    have h1:=congrArg List.length Hxs.o;simp at h1;omega
   go_wp2_with fail;go_roundw
   case rel=>exact⟨i+1,A6,c6,(l || (KF x).2),xs++[((KF x).1,sl6)],by go_num,by omega,(by show List.map _ _=_;rw[Htk.o,az,az,Hxs.o];rfl),(by show _=_;rw[Htk.o,List.any_append,<-Hl.o];simp),by simp;omega,by rw[el];exact HL6.o⟩
   case measure=>simp[intOf];omega
  ·have i1:¬((i:Int)<(vv.kids.length:Int)):=aH;go_wp2_with fail;refine Jd [52,53,999,9]
    (fun ix v W=>match ix with|0=>v=.agg #[.int .u8 (vv.what.toNat:Int),vv.text,(vv.tag:Int),.slice A xs.length c]|1=>v=.bool l|3=>v=.bool l|_=>True)
    (fun L U W=>(L 2=false->W=wr.drew)/\(L 2=true->W=wr.drew.setCells (w.heap.size+4) 0 [.int .u8 (vv.what.toNat:Int),vv.text,(vv.tag:Int),.slice A xs.length c])) (⟨fun _=>rfl,fun h=>Bool.noConfusion h⟩) ?_ ?_
   ·repeat (first|exact Ak.nil|(refine Ak.cons ?_ ?_;rotate_left))
    all_goals
     rintro L U W hL hpre HR Hdep K hK;first|(simp[Region.binds]at hpre;done)|simp[Region.binds]at hpre|clear hpre
    ·exact iz
    ·have x6:W.cell? (w,6,0)=some (.bool l):=by
      cases e2:L 2 with
      |false=>rw[HR.o.1 e2];exact HL.o.c6
      |true=>
       exact lX
     exact kL
    ·have hW:=HR.o.1 hL;subst hW;have u0:U 0=.agg #[.int .u8 (vv.what.toNat:Int),vv.text,(vv.tag:Int),.slice A xs.length c]:=cH;rw[if_pos cr];refine wp_store_mid 68 _ _ rfl (w.heap.size+4) 0 ([.int .u8 (vv.what.toNat:Int),vv.text,(vv.tag:Int),.slice A xs.length c]:List Value).toArray rfl u0 (Aj T7.o (show w.heap.size+4<w.heap.size+5 by omega) HL.o.keep.drew) aN bh ?_;exact lY
    ·exact hD
   rintro L U W hL hφ hR;have hW:=hR.2 (hL 2 aJ);have u3:U 3=.bool l:=hφ 3 aJ;simp only[u3];have HT:=Aa (Aj T7.o (show w.heap.size+4<w.heap.size+5 by omega) (HL.o.keep.drew));clear hR hL hφ u3;subst hW;go_wp2_with fail;refine aF (v:=.tuple #[.agg ([.int .u8 (vv.what.toNat:Int),vv.text,(vv.tag:Int),.slice A xs.length c]:List Value).toArray,.bool l]) ?_ rfl ?_
   ·exact As results115 _ _ (w.heap.size+4) [.int .u8 (vv.what.toNat:Int),vv.text,(vv.tag:Int),.slice A xs.length c] _ _ rfl rfl (aa _ _ _ _ HT.o) underlying68 rfl aN
   have hiK:=HL.o.st.done hxl;rw[show Bc xs=vv.kids.map fun x=>(KF x).1 from by have:=Hxs.o;rw[au aH]at this;exact this]at hiK;have hkl9:xs.length=(vv.kids.map fun x=>(KF x).1).length:=by
    have h1:=congrArg List.length Hxs.o;rw[au aH]at h1;simpa using h1
   refine⟨.slice A xs.length c,by rw[Hl.o,au aH];rfl,?_,?_⟩
   ·have h2:=(hiK.after (Ao _ _).drew).grown (Br (w.heap.size+4) [.int .u8 (vv.what.toNat:Int),vv.text,(vv.tag:Int),.slice A xs.length c] 0 _) (fun c hc e=>by injection e with e;omega);exact h2.mono fun c hc _=>aH
   exact Ai _ aH _ _ _ HL.o.bel.drew
theorem Qfp(S:List Ty)(K:Kd->Vl->Vl × Bool)(fs:List Fd)(y:Vl):(N6 S K fs y).1.length<=1:=by
 unfold N6
 cases Au fs y.tag with
 |none=>simp
 |some f=>simp only;split<;>simp
theorem Z5{α β:Type}(g:α->List β)(hg:∀x,(g x).length<=1):∀l:List α,(l.flatMap g).length<=l.length
 |[]=>by simp
 |x::l=>by have:=Z5 g hg l;have:=hg x;simp only[List.flatMap_cons,List.length_append,List.length_cons];omega
theorem Qj9(k:Kd)(c:UInt8)(r:List UInt8)(h:k.signs=c::r):k=⟨c::k.part.signs,k.part.base,k.part.name⟩:=by
 obtain⟨s,b,n⟩:=k
 simp only at h
 subst h
 rfl
theorem Qcw{k:Kd}(h:Ck k):k.signs.length<=12/\(k.base=[64]->k.name.length<=12):=by
 have h3:=h.2.2
 unfold Ax Bu at h3
 simp only[List.length_append]at h3
 refine⟨by omega,fun e=>?_⟩
 rw[if_pos e]at h3
 simp at h3
 omega
theorem Qie{S T:List Ty}{R:Cn->Cn->Prop}(hR:Zs S T R)(hT:G7 T)(hok:G7 S)(xs ys:List PT)(hxs:Ag xs=S)(hys:Ag ys=T)(eb:Nat)(p1 p2:Value):∀(d:Nat) (a b:Kd) (v:Vl),Q8 R a b->Ha T d b v->Ck a->Ck b->(Az v).length<=900000 ->
  ∀(P:Nat->Prop) (A:Option Addr) (n c:Nat) (w:World),EvW w eb p1 p2 xs ys->Ea P w (.slice A n c) v.kids ->
  Calls prog 115 #[.pointer (some ⟨eb,0,none⟩),D9 a,D9 b,Ec v (.slice A n c)] w (Mu (Dc S d a v) w):=by
 intro d
 induction d with
 |zero=>intro a b v _ h;cases h
 |succ d ih=>
  intro a b v hk hv ha hb' hl P A n c w hev hiv
  obtain⟨k1,k2,k3⟩:=hk
  have hn:n=v.kids.length:=by
   obtain⟨A',c',e⟩:=hiv.form
   injection e
  subst hn
  have named:a.signs=[]->a.base=[64]->∀u,Bk T b.name=some u->∃x y pb1 mb1 pb2 mb2,Bk S a.name=some x.ty/\y.ty=u/\x.ty.sort=u.sort/\(∀g∈u.fields,Nv S T R x.ty u.sort g)/\P8 w x/\P8 w y/\x.ty∈S/\p1=.pointer (some ⟨pb1,0,none⟩)/\LkT w eb a.name b.name x.blk y.blk pb1 mb1 pb2 mb2:=by
   intro hs hb u hu
   obtain⟨t,u',htS,htT,hsu,hfr⟩:=hR _ _ (k3 hb)
   rw[hu]at htT
   injection htT with htT
   subst htT
   have hx:∃x,D8 xs a.name=some x/\x.ty=t:=by
    rw[<-hxs,Gg]at htS
    cases hx:D8 xs a.name with
    |none=>rw[hx]at htS;cases htS
    |some y=>rw[hx]at htS;injection htS with htS;exact⟨y,rfl,htS⟩
   have hy:∃y,D8 ys b.name=some y/\y.ty=u:=by
    rw[<-hys,Gg]at hu
    cases hy:D8 ys b.name with
    |none=>rw[hy]at hu;cases hu
    |some y=>rw[hy]at hu;injection hu with hu;exact⟨y,rfl,hu⟩
   obtain⟨x,hx,rfl⟩:=hx
   obtain⟨y,hy,rfl⟩:=hy
   obtain⟨pb1,mb1,pb2,mb2,e1,e2,hlk⟩:=Qmz hev hx hy (by have:=(Qcw ha).2 hb;omega) (by have:=(Qcw hb').2 (k2 ▸ hb);omega)
   have hi1:P8 w x:=by obtain⟨_,_,_,_,_,_,_,_,_,_,hq,_⟩:=hev.s1;exact hq x (D5 hx).1
   have hi2:P8 w y:=by obtain⟨_,_,_,_,_,_,_,_,_,_,hq,_⟩:=hev.s2;exact hq y (D5 hy).1
   exact⟨x,y,pb1,mb1,pb2,mb2,htS,rfl,hsu,hfr,hi1,hi2,(Cf htS).1,e1,hlk⟩
  have lst:∀c0 r,a.signs=c0::r->(∀x∈v.kids,Ha T d b.part x/\(Az x).length<=900000)->Calls prog 115 #[.pointer (some ⟨eb,0,none⟩),D9 a,D9 b,Ec v (.slice A v.kids.length c)] w (Mu (Dc S (d+1) a v) w):=by
   intro c0 r hs hkv
   have ea:=Qj9 a c0 r hs
   have eb':=Qj9 b c0 r (k1 ▸ hs)
   have hps:b.part.signs=a.part.signs:=by show b.signs.tail=a.signs.tail;rw[k1]
   have h:=Qil P w eb c0 a.part.signs a.part.base a.part.name b.part.base b.part.name (by have:=(Qcw (Js ha).1).1;omega) v A c hiv (Dc S d a.part) (fun x hx W A' n' c' hW hs2=>by
    have:=ih a.part b.part x (Ko ⟨k1,k2,k3⟩) (hkv x hx).1 (Js ha).1 (Js hb').1 (hkv x hx).2 P A' n' c' W (hev.after hW) hs2
    rw[<-hps]
    rw[show D9 ⟨b.part.signs,a.part.base,a.part.name⟩=D9 a.part from by rw[hps]]
    exact this)
   rw[<-ea,<-hps,<-eb']at h
   obtain⟨w0,tx,tg,ks⟩:=v
   rw[Dg,if_pos (by rw[hs];simp)]
   exact h
  cases hv with
  |@n _ _ m hs hb h=>
   rw[Dg,if_neg (by rw[k1,hs];simp),if_pos (by rw[k2,hb];decide)]
   exact Yl w eb a b (k1.trans hs) (by rw[k2,hb];decide) _ rfl A c
  |@t _ _ s hs hb h=>
   rw[Dg,if_neg (by rw[k1,hs];simp),if_pos (by rw[k2,hb];decide)]
   exact Yl w eb a b (k1.trans hs) (by rw[k2,hb];decide) _ rfl A c
  |@f _ _ x hs hb=>
   generalize (if x then Ev else M5)=tx at *
   rw[Dg,if_neg (by rw[k1,hs];simp),if_pos (by rw[k2,hb];decide)]
   exact Yl w eb a b (k1.trans hs) (by rw[k2,hb];decide) _ rfl A c
  |@lst _ _ r ks hs hl2 h=>
   refine lst 91 r (k1.trans hs) fun x hx=>⟨h x hx,?_⟩
   rw[Ji]at hl
   simp only[List.length_cons,List.length_append,Bw,List.length_nil]at hl
   have:=N4 (List.mem_map_of_mem (f:=Az) (show x∈ks from hx))
   omega
  |@non _ _ r hs=>exact lst 63 r (k1.trans hs) fun x hx=>absurd hx (by simp[Vl.kids])
  |@som _ _ r x hs h=>
   refine lst 63 r (k1.trans hs) fun y hy=>?_
   rw[show y=x from by simpa [Vl.kids]using hy]
   exact⟨h,by simp[Az,D3,H4,Aw]at hl;omega⟩
  |@enm _ _ u g hs hb ht h9 hf=>
   obtain⟨x,y,pb1,mb1,pb2,mb2,htS,_,_,_,_,_,_,_,hlk⟩:=named (k1.trans hs) (k2.trans hb) u ht
   rw[Dg,if_neg (by rw[k1,hs];simp),if_neg (by rw[k2,hb];simp),htS]
   simp only
   rw[if_neg (show ¬(69:UInt8)=85 by decide),if_neg (show ¬(69:UInt8)=82 by decide)]
   exact Qjq w eb a b (k1.trans hs) (k2.trans hb) (.mk 69 [] g.tag []) (show (69:UInt8)≠85 by decide) (show (69:UInt8)≠82 by decide) rfl A c _ _ _ _ _ _ hlk
  |@uni _ _ u g x hs hb ht h5 hf h=>
   obtain⟨xp,yp,pb1,mb1,pb2,mb2,htS,hyu,hsu,hfr,hi1,hi2,htm,_,hlk⟩:=named (k1.trans hs) (k2.trans hb) u ht
   subst hyu
   rw[Dg,if_neg (by rw[k1,hs];simp),if_neg (by rw[k2,hb];simp),htS]
   simp only
   rw[if_pos Ac]
   have hrel:=hfr g (At hf).2
   unfold Nv at hrel
   have etag:g.tag<=200:=(K0 hT.1.1 ht (by rw[h5];decide) (At hf).2).2
   cases hft:Au xp.ty.fields g.tag with
   |none=>rw[hft]at hrel;simp only at hrel;rw[h5]at hrel;exact absurd hrel (by decide)
   |some f=>
    rw[hft]at hrel
    simp only at hrel
    rw[h5]at hrel
    have hkr:Q8 R f.kind g.kind:=by rcases hrel with h|h;exact absurd h (by decide);exact h.1
    have hkf:=(K0 hok.1.1 htS (by rw[hsu,h5];decide) (At hft).2).1
    have hkg:=(K0 hT.1.1 ht (by rw[h5];decide) (At hf).2).1
    have hres:=Qj7 P w eb a b (k1.trans hs) (k2.trans hb) (.mk 85 [] g.tag [x]) x rfl rfl A c hiv xp yp pb1 mb1 pb2 mb2 hlk hi1 hi2 f g (by show g.tag<=_;omega) hft hf (Dc S d f.kind x) (fun W A' n' c' hW hs2=>ih f.kind g.kind x hkr h hkf hkg (by simp[Az,D3,H4,Aw]at hl;omega) P A' n' c' W (hev.after hW) hs2)
    simp only[List.map_cons,List.map_nil,List.any_cons,List.any_nil,Bool.or_false]
    exact hres
  |@rcd _ _ u ps hs hb ht h2 hf h hn hp=>
   obtain⟨xp,yp,pb1,mb1,pb2,mb2,htS,hyu,hsu,hfr,hi1,hi2,htm,hp1,hlk⟩:=named (k1.trans hs) (k2.trans hb) u ht
   subst hyu
   rw[Dg,if_neg (by rw[k1,hs];simp),if_neg (by rw[k2,hb];simp),htS]
   simp only
   rw[if_neg (by decide),if_pos Ac]
   have hst:xp.ty.sort≠69:=by rw[hsu,h2];decide
   have hres:=Qi4 P w eb a b (k1.trans hs) (k2.trans hb) (.mk 82 [] 0 (ps.map Dk)) rfl (ps.map fun p=>(p.1.tag,p.2)) (by simp[Vl.kids,fdV,Dk,Function.comp_def]) A c hiv xp yp pb1 mb1 pb2 mb2 hlk hi1 hi2
    (ps.map fun p=>N6 S (Dc S d) xp.ty.fields (Dk p)) (by simp) (fun i hi hj=>by
     have hi2:i<ps.length:=by simpa using hi
     have hm:=List.getElem_mem hi2
     rw[List.getElem_map,List.getElem_map]
     generalize hpi:ps[i]=p at *
     have hl9:(Az p.2).length<=900000:=by
      rw[Kl]at hl
      simp only[List.length_cons,List.length_append,Bw,List.length_nil]at hl
      have h3:=N4 (List.mem_map_of_mem (f:=fun p=>Az (Dk p)) hm)
      simp only[Ja]at h3
      omega
     have hrel:=hfr p.1 (At (hf p hm)).2
     have htg:=(K0 hT.1.1 ht (by rw[h2];decide) (At (hf p hm)).2).2
     unfold Nv at hrel
     refine⟨by show p.1.tag<=_;omega,?_⟩
     have e1:N6 S (Dc S d) xp.ty.fields (Dk p)=match Au xp.ty.fields p.1.tag with|none=>([],true)|some f=>if Az (Dc S d f.kind p.2).1=G9 S f then([],true)else([.mk 61 [] p.1.tag [(Dc S d f.kind p.2).1]],(Dc S d f.kind p.2).2):=rfl
     rw[e1]
     cases hft:Au xp.ty.fields p.1.tag with
     |none=>exact .inl ⟨rfl,rfl⟩
     |some f=>
      rw[hft]at hrel
      simp only at hrel
      rw[h2]at hrel
      have hkr:Q8 R f.kind p.1.kind:=by rcases hrel with h|h;exact absurd h (by decide);exact h.1
      have hkf:=(K0 hok.1.1 htS hst (At hft).2).1
      have hkg:=(K0 hT.1.1 ht (by rw[h2];decide) (At (hf p hm)).2).1
      obtain⟨hok2,hlok⟩:=Te hR d f.kind p.1.kind p.2 hkr (h p hm)
      have hB:=Vi hok.1.1 d f.kind _ hok2 (Nat.le_trans hlok.le hl9)
      refine .inr ⟨f,p.1,Dc S d f.kind p.2,Az (Dc S d f.kind p.2).1,G9 S f,rfl,hf p hm,fun W A' n' c' hW hs2=>ih f.kind p.1.kind p.2 hkr (h p hm) hkf hkg hl9 P A' n' c' W (hev.after hW) hs2,fun Q W sl hs2=>Py Q hB sl W hs2,fun W b' o' hW hb' hrg=>?_,?_⟩
      ·have hsc:=hev.s1.below hW
       rw[hp1]at hsc
       have:=Rj _ xs (by rw[hxs];exact hok) f b' o' W hsc (Ah hrg hb' hW) hkf (by rw[hxs];exact hok.2.1 _ htm hst f (At hft).2) (Nat.le_trans (Fq ((hok.1.1 _ htm).2.2.1.1 f (At hft).2)) (by decide))
       rw[hxs]at this
       exact this
      simp only
      by_cases hq:Az (Dc S d f.kind p.2).1=G9 S f
      ·exact .inl ⟨hq,if_pos hq⟩
      exact .inr ⟨hq,if_neg hq⟩) (fun k hk=>by
     have h1:((((ps.map fun p=>N6 S (Dc S d) xp.ty.fields (Dk p)).take k).flatMap (·.1))).length<=((ps.map fun p=>N6 S (Dc S d) xp.ty.fields (Dk p)).take k).length:=by
      rw[<-List.map_take,List.flatMap_map,List.length_map]
      exact Z5 _ (fun p=>Qfp _ _ _ _) _
     rw[List.length_take]at h1
     omega)
   have e2:((ps.map fun p=>N6 S (Dc S d) xp.ty.fields (Dk p)).flatMap (·.1))=(ps.map Dk).flatMap fun y=>(N6 S (Dc S d) xp.ty.fields y).1:=by simp[List.flatMap_map]
   have e3:((ps.map fun p=>N6 S (Dc S d) xp.ty.fields (Dk p)).any (·.2))=(ps.map Dk).any fun y=>(N6 S (Dc S d) xp.ty.fields y).2:=by simp[List.any_map,Function.comp_def]
   rw[e2,e3]at hres
   exact hres
section
variable {P:Program}
theorem Jx{fn:Func}{p q r:Tmp}{ty:TypeId}(h:fn.results=#[.cell p ty,.tmp q,.tmp r])(tmps:Array Value)(w:World)(b:Nat)(cs:List Value)(d:TypeDesc)(x y:Value)
  (hp:tmps.getD p undef=b) (hq:tmps.getD q undef=x) (hr:tmps.getD r undef=y) (hc:w.rangeAt b 0 cs) (hu:P.underlying ty=some d) (hd:d.isRow=true) (hi:(P.info? ty).map (·.size)=some cs.length):
  (results fn tmps).run P w=.ok (.tuple #[.agg cs.toArray,x,y]) w:=by
 have hp':tmps[p]?.getD undef=b:=ef;have hq':tmps[q]?.getD undef=x:=f7;have hr':tmps[r]?.getD undef=y:=dz;simp[results,h,hp',hq',hr',asAddr,run_loadVar_mid w b 0 ty cs d hc hu hd hi]
end
def Zf(o:Option (Vl × Bool))(w:World)(e:Ending)(w':World):Prop:=
 (∃v sl l,e=.returned (.tuple #[Ec v sl,.bool l,.bool o.isSome])/\Ea (fun c=>w.heap.size<=c) w' sl v.kids/\∀r,o=some r->v=r.1/\l=r.2)/\Below w w w'
theorem Zf.no{o:Option (Vl × Bool)}{w w':World}{e:Ending}(ho:o=none)(he:e=.returned (.tuple #[Ec Et (.slice none 0 0),.bool false,.bool false]))(hb:Below w w w'):Zf o w e w':=by
 subst ho;exact⟨⟨Et,_,false,he,Ea.nil _ _,by simp⟩,hb⟩
structure Kw(w1:World)(o:Option Vl)(l m x z al st q:Bool)(ul um ux uz ual uq:Value)(W:World):Prop where
 be:Below w1 w1 W
 yes:l=true->∃v A c,(∀y,o=some y->v=y)/\Ea (fun c=>w1.heap.size<=c/\(al=true->ual≠.pointer (some ⟨c,0,none⟩))) W (.slice A v.kids.length c) v.kids/\ul=.tuple #[Ec v (.slice A v.kids.length c),.bool o.isSome] /\
  (m=true->um=.tuple #[Ec v (.slice A v.kids.length c),.bool o.isSome])/\(x=true->ux=Ec v (.slice A v.kids.length c))/\(z=true->uz=.bool o.isSome)/\(q=true->uq=.bool o.isSome)
 al:al=true->∃B,ual=.pointer (some ⟨B,0,none⟩)/\w1.heap.size<=B/\B<W.heap.size/\W.there B 0 4/\(st=true->∃v A c,ux=Ec v (.slice A v.kids.length c)/\W.rangeAt B 0 (Ka (v,.slice A v.kids.length c)))
section
variable {w1 W W':World} {o:Option Vl} {l m x z al st q:Bool} {ul um ux uz ual uq:Value} {v:Vl} {A:Option Addr} {c B:Nat}
theorem Kw.start:Kw w1 o false m x z false st q ul um ux uz ual uq w1:=⟨Ao _ _,fun h=>Bool.noConfusion h,fun h=>Bool.noConfusion h⟩
theorem Kw.call(h:Kw w1 o l m x z al st q ul um ux uz ual uq W)(hm:m=false)(hx:x=false)(hz:z=false)(hst:st=false)(hq:q=false)(ho:∀y,o=some y->v=y)(hs:Ea (fun c=>W.heap.size<=c) W' (.slice A v.kids.length c) v.kids)(hb:Below W W W'):
  Kw w1 o true m x z al st q (.tuple #[Ec v (.slice A v.kids.length c),.bool o.isSome]) um ux uz ual uq W':=by
 subst hm hx hz hst hq;refine⟨h.be.trans (hb.mono h.be.size),fun _=>⟨v,A,c,ho,hs.mono fun k hk hl=>⟨ad h.be.size hk,fun ha e=>?_⟩,rfl,fun h=>Bool.noConfusion h,fun h=>Bool.noConfusion h,fun h=>Bool.noConfusion h,fun h=>Bool.noConfusion h⟩,fun ha=>?_⟩
 ·obtain⟨B,h1,h2,h3,_⟩:=h.al ha;rw[h1]at e;injection e with e;injection e with e;injection e with e;have:W.heap.size<=k:=hk;omega
 exact lC
theorem Kw.move(h:Kw w1 o l m x z al st q ul um ux uz ual uq W)(hl:l=true):Kw w1 o l true x z al st q ul ul ux uz ual uq W:=
 ⟨h.be,fun hl=>by obtain⟨v,A,c,h1,h2,h3,_,h4⟩:=h.yes hl;exact⟨v,A,c,h1,h2,h3,fun _=>h3,h4⟩,h.al⟩
theorem Kw.get(h:Kw w1 o l m x z al st q ul um ux uz ual uq W)(hl:l=true)(hm:m=true)(hst:x=false->st=false):∃v A c,um=.tuple #[Ec v (.slice A v.kids.length c),.bool o.isSome] /\
  (x=false->Kw w1 o l m true z al st q ul um (Ec v (.slice A v.kids.length c)) uz ual uq W)/\Kw w1 o l m x true al st q ul um ux (.bool o.isSome) ual uq W:=by
 obtain⟨v,A,c,h1,h2,h3,h4,h5,h6,h7⟩:=h.yes hl;refine⟨v,A,c,h4 hm,fun hx=>⟨h.be,fun _=>⟨v,A,c,h1,h2,h3,h4,fun _=>rfl,h6,h7⟩,fun ha=>?_⟩,⟨h.be,fun _=>⟨v,A,c,h1,h2,h3,h4,h5,fun _=>rfl,h7⟩,h.al⟩⟩;exact lD
theorem Kw.as(h:Kw w1 o l m x z al st q ul um ux uz ual uq W)(hz:z=true):Kw w1 o l m x z al st true ul um ux uz ual uz W:=
 ⟨h.be,fun hl=>by obtain⟨v,A,c,h1,h2,h3,h4,h5,h6,_⟩:=h.yes hl;exact⟨v,A,c,h1,h2,h3,h4,h5,h6,fun _=>h6 hz⟩,h.al⟩
theorem Kw.alloc(h:Kw w1 o l m x z al st q ul um ux uz ual uq W)(hst:st=false)(T:TypeId):Kw w1 o l m x z true st q ul um ux uz W.heap.size uq (W.alloc (.cells #[.int .u8 0,a6,.int .i64 0,.slice none 0 0] T)):=by
 have hb:=(Ao W.heap.size W).alloc (An _) (.cells #[.int .u8 0,a6,.int .i64 0,.slice none 0 0] T);refine⟨h.be.alloc h.be.size _,fun hl=>?_,fun _=>⟨_,rfl,h.be.size,by simp,Bz W [.int .u8 0,a6,.int .i64 0,.slice none 0 0] T,fun h=>absurd (hst.symm.trans h) aJ⟩⟩;obtain⟨v,A,c,h1,h2,h3⟩:=h.yes hl;exact⟨v,A,c,h1,(h2.mono (Q:=fun c=>w1.heap.size<=c/\(true=true->(Value.pointer (W,0))≠c)) fun k hk hl=>⟨hk.1,fun _ e=>by injection e with e;injection e with e;injection e with e;omega⟩).after hb,h3⟩
theorem Kw.store(h:Kw w1 o l m x z al st q ul um ux uz ual uq W)(hl:l=true)(hx:x=true)(ha:al=true):
  ∃v A c B,ux=Ec v (.slice A v.kids.length c)/\ual=.pointer (some ⟨B,0,none⟩)/\W.there B 0 4/\Kw w1 o l m x z al true q ul um ux uz ual uq (W.setCells B 0 (Ka (v,.slice A v.kids.length c))):=by
 obtain⟨v,A,c,h1,h2,h3,h4,h5,h6⟩:=h.yes hl;obtain⟨B,g1,g2,g3,g4,_⟩:=h.al ha;refine⟨v,A,c,B,h5 hx,g1,g4,Ai _ g2 _ _ _ h.be,fun _=>⟨v,A,c,h1,h2.set (fun hP=>hP.2 ha g1) _,h3,h4,h5,h6⟩,fun _=>⟨B,g1,g2,by rw[Ch];exact g3,ai g4 _ _ _,fun _=>⟨v,A,c,h5 hx,aa _ _ _ _ g4⟩⟩⟩
theorem Kw.fin(h:Kw w1 o l m x z al st q ul um ux uz ual uq W)(hl:l=true)(hx:x=true)(ha:al=true)(hs:st=true)(hq:q=true):
  ∃v A c B,(∀y,o=some y->v=y)/\ual=.pointer (some ⟨B,0,none⟩)/\uq=.bool o.isSome/\w1.heap.size<=B/\B<W.heap.size/\W.rangeAt B 0 (Ka (v,.slice A v.kids.length c))/\Ea (fun c=>w1.heap.size<=c) W (.slice A v.kids.length c) v.kids/\Below w1 w1 W:=by
 obtain⟨v,A,c,h1,h2,h3,h4,h5,h6,h7⟩:=h.yes hl;obtain⟨B,g1,g2,g3,g4,g5⟩:=h.al ha;obtain⟨v',A',c',e1,e2⟩:=g5 hs;have e3:=h5 hx;rw[e1]at e3;unfold Ec at e3;injection e3 with e3;simp at e3;refine⟨v,A,c,B,h1,g1,h7 hq,g2,g3,?_,h2.mono fun k hk _=>hk.1,h.be⟩;unfold Ka at e2 ⊢;simp only at e2 ⊢;obtain⟨i1,i2,i3,i4,i5,i6⟩:=e3;rw[i1,i2,i3,i4,i5,i6]at e2;exact e2
end
theorem Qbe{S T:List Ty}{a b:Kd}{x:List UInt8}{v:Vl}(hS:G7 S)(hT:G7 T)(hb:Ck b)(he:Jk S T a b=true)(hv:Gs T b x=some v):∃R,Zs S T R/\Q8 R a b/\Ha T 12 b v/\Az v=x/\x.length<=400/\Bd (Dc S 12 a v).1/\LOk v (Dc S 12 a v):=by
 obtain⟨R,hR,hK⟩:=Pk hS.1.2.1 hT.1.2.1 he;obtain⟨h1,h2,h3⟩:=(Gk hT.1.1 hb).1 hv;obtain⟨h4,h5⟩:=Te hR 12 a b v hK h1;exact⟨R,hR,hK,h1,h2,h3,Vi hS.1.1 12 a _ h4 (ad h5.le (by rw[h2];omega)),h5⟩
theorem Qdc(s1 d1 s2 d2 x:List UInt8)(w:World)(h1:s1.length<=4000000)(h2:d1.length<=4000000)(h3:s2.length<=4000000)(h4:d2.length<=4000000)(h5:x.length<=4000000):
  Calls prog 53 #[s1,d1,s2,d2,x] w (Zf (Jw (Bm s1 d1) (Bm s2 d2) x) w):=by
 have H1:=Aa (fun W=>Qcg s1 d1 s2 d2 W h1 h2 h3 h4);have G1:=Aa (fun S k (h:Bm s1 d1=some (S,k))=>Dd h);have G2:=Aa (fun S k (h:Bm s2 d2=some (S,k))=>Dd h);generalize Bm s1 d1=o1 at *;generalize Bm s2 d2=o2 at *;go_enter func53,ntmps53;go_wp2_with fail;obtain⟨W1,hW1⟩:∃W1,W1=w.alloc (.cells #[.int .u8 0,a6,.int .i64 0,.slice none 0 0] 68):=⟨_,rfl⟩
 rw[<-hW1];have hz1:W1.heap.size=w.heap.size+1:=cG;have B1:=Aa (show Below w w W1 by rw[hW1];exact(Ao _ _).alloc (An _) _);have T1:=Aa (show W1.there w 0 4 by rw[hW1];exact Bz w [.int .u8 0,a6,.int .i64 0,.slice none 0 0] 68);clear hW1;refine(H1.o W1).mono ?_;rintro e W2 ⟨q,a1,b1,c1,a2,b2,c2,rfl,hb2,hev⟩;have Hev:=Aa hev;have hz2:=hb2.size;have B2:=Aa (B1.o.trans (hb2.mono aH));have T2:=Aa (Aj T1.o aH hb2);have Hb2:=Aa hb2;obtain⟨W3,hW3⟩:∃W3,W3=(W2.alloc (.cells #[.string a1,.string b1,.string c1] 60)).alloc (.cells #[.string a2,.string b2,.string c2] 60):=⟨_,rfl⟩
 have hb3:Below W2 W2 W3:=by rw[hW3];exact((Ao _ _).alloc (An _) _).alloc aK _
 have B3:=Aa (B2.o.trans (hb3.mono B2.o.size));have T3:=Aa (Aj T2.o aH hb3);have HW3:=Aa hW3;clear hev hb2 hW3;cases he:Ge o1 o2 with
 |false=>
  have HN:=Aa (Qd0 (x:=x) he);clear he;go_wp2_with ((with_reducible refine Af (op:=⟨none,.store 68 _ _,_,_,_,none⟩) rfl 68 _ _ rfl w 0 [.int .u8 0,a6,.int .i64 0,.slice none 0 0] ?_ ?_ ?_ ?_ ?_ ?_);rfl;rfl;(rw[<-HW3.o];exact T3.o);kernel_rfl;(simp[Value.oneCell']);intro w9 HS9)
  have HZ:=(by rw[HS9.o,<-HW3.o];exact aa _ _ _ _ T3.o:w9.rangeAt w 0 (Gl Et (.slice none 0 0)))
  refine aF (v:=.tuple #[.agg (Gl Et (.slice none 0 0)).toArray,.bool false,.bool false]) (Jx results53 _ _ w.heap.size _ _ _ _ rfl rfl rfl HZ underlying68 rfl aN) rfl ?_;exact Zf.no HN.o rfl (by rw[HS9.o,<-HW3.o];exact Ai _ aH _ _ _ B3.o)
 |true=>
  obtain⟨S,T,a,b,xs,ys,eb,p1,p2,rfl,rfl,hxs,hys,rfl,rfl,rfl,rfl,rfl,rfl,rfl,e1,e2,e3,e4,e5,e6⟩:=Hev.o he;obtain⟨g1,_,_,ga,_,gra⟩:=G1.o S a rfl;obtain⟨g2,_,_,gb,_,grb⟩:=G2.o T b rfl;have Hev9:=@Aa (EvW W3 eb (.pointer p1) (.pointer p2) xs ys) (EvW.after ⟨e2,e3,e4,e5.isc,e6.isc⟩ hb3);have He:=@Aa (Jk S T a b=true) he;have HS:=Aa g1;have HT:=Aa g2;have Hrd:=Aa (fun W (h:Sd W (.pointer p2) ys)=>Qba (.pointer p2) ys (by rw[hys];exact g2) b gb (by rw[hys];exact grb) x W h h5);rw[hys]at Hrd;obtain⟨o,ho⟩:∃o,Gs T b x=o:=⟨_,rfl⟩
  rw[ho]at Hrd;have Ho:=Aa ho;have Hga:=Aa ga;have Hgb:=Aa gb;have Hxs:=Aa hxs;have Hys:=Aa hys
  have Hlift:=Aa (show Jw (some (S,a)) (some (T,b)) x=o.map (Dc S 12 a)from by
   show (if Jk S T a b=true then(Gs T b x).map (Dc S 12 a)else none)=_;rw[if_pos He.o,ho])
  have x0:W3.cell? (W2,0)=a.signs:=dA;have x1:W3.cell? (W2,1)=a.base:=dA;have x2:W3.cell? (W2,2)=a.name:=dA;have x3:W3.cell? (W2,1,0)=b.signs:=dA;have x4:W3.cell? (W2,1,1)=b.base:=dA;have x5:W3.cell? (W2,1,2)=b.name:=dA;have X0:=Aa x0;have X1:=Aa x1;have X2:=Aa x2;have X3:=Aa x3;have X4:=Aa x4;have X5:=Aa x5;have hz3:W3.heap.size=W2.heap.size+2:=by rw[HW3.o];simp
  clear he g1 g2 ga gb gra grb ho hxs hys e3 e4 e5 e6 x0 x1 x2 x3 x4 x5 hb3 Hev G1 G2 Hb2 B1 T1;unfold D9 at Hrd;go_upto_region 4 with fail
  rw[<-HW3.o];have Hy2:=Aa Hev9.o.s2;refine Jd [34,35,36,37,38,39,40,33,41,42,17,999,16]
   (fun ix v W=>match ix with|0=>v=eb|1=>v=eb|2=>v=(eb,1)|3=>v=.pointer p2|4=>v=.agg #[b.signs,b.base,b.name]|5=>v=x|_=>True)
   (fun L U W=>Kw W3.drew o (L 6) (L 7) (L 8) (L 9) (L 10) (L 11) (L 12) (U 6) (U 7) (U 8) (U 9) (U 10) (U 12) W) (Kw.start) ?_ ?_
  ·repeat (first|exact Ak.nil|(refine Ak.cons ?_ ?_;rotate_left))
   all_goals
    rintro L U W hL hpre HR Hdep K hK;have hb4:Below W3 W3 W:=(Ao _ _).drew.trans HR.o.be;first|(simp[Region.binds]at hpre;done)|simp[Region.binds]at hpre|clear hpre
   iterate 3
    ·exact hD
   ·have e4:=(hb4.cell (p:=⟨eb,1,none⟩) Hev9.o.lt).trans Hev9.o.c1;exact kL
   ·have y0:=(hb4.cell (p:=⟨W2.heap.size+1,0,none⟩) (show W2.heap.size+1<W3.heap.size by omega)).trans X3.o;have y1:=(hb4.cell (p:=⟨W2.heap.size+1,1,none⟩) (show W2.heap.size+1<W3.heap.size by omega)).trans X4.o;have y2:=(hb4.cell (p:=⟨W2.heap.size+1,2,none⟩) (show W2.heap.size+1<W3.heap.size by omega)).trans X5.o;exact kL
   ·exact hD
   ·have h7:L 7=false:=Bb Hdep.o 7 6 rfl hL;have h8:L 8=false:=Bb Hdep.o 8 7 rfl h7;have h9:L 9=false:=Bb Hdep.o 9 7 rfl h7;have h11:L 11=false:=Bb Hdep.o 11 8 rfl h8;have h12:L 12=false:=Bb Hdep.o 12 9 rfl h9;go_simp;refine(Hrd.o _ (Hy2.o.below hb4)).mono ?_;rintro e w5 ⟨⟨v,sl5,rfl,hs5,hx5⟩,hb5⟩;obtain⟨A5,c5,rfl⟩:=hs5.form;go_simp;exact hK (.tuple #[Ec v (.slice A5 v.kids.length c5),.bool o.isSome]) _ _ Ac Ac (HR.o.call h7 h8 h9 h11 h12 hx5 hs5 hb5) eL
   ·have l6:L 6=true:=aL;go_simp;exact hK _ _ _ Ac Ac (HR.o.move l6) aI
   ·have l7:L 7=true:=aL;have l6:L 6=true:=Np (Bb Hdep.o 7 6 rfl) l7;have h11:L 11=false:=Bb Hdep.o 11 8 rfl hL;obtain⟨v,A5,c5,um,g0,g1⟩:=HR.o.get l6 l7 (fun _=>h11);simp only[um];go_simp;exact hK _ _ _ Ac Ac (g0 hL) (by simp[Act.put,hpre,um,Ec])
   ·have l7:L 7=true:=aL;have l6:L 6=true:=Np (Bb Hdep.o 7 6 rfl) l7;obtain⟨v,A5,c5,um,g0,g1⟩:=HR.o.get l6 l7 (fun h=>by cases e:L 11 with|false=>rfl|true=>exact absurd ((Bb Hdep.o 11 8 rfl h).symm.trans e) aJ);simp only[um];go_simp;exact hK _ _ _ Ac Ac g1 (by simp[Act.put,hpre,um])
   ·have h11:L 11=false:=Bb Hdep.o 11 10 rfl hL;go_simp;exact hK _ _ _ Ac Ac (HR.o.alloc h11 _) rfl
   ·have l8:L 8=true:=dT;have l10:L 10=true:=dU;have l7:L 7=true:=Np (Bb Hdep.o 8 7 rfl) l8;have l6:L 6=true:=Np (Bb Hdep.o 7 6 rfl) l7;obtain⟨v,A5,c5,B,u8,u10,ht,hn⟩:=HR.o.store l6 l8 l10;unfold Ec at u8;unfold Ka at hn;rw[if_pos cr];refine wp_store_mid 68 _ _ rfl B 0 ([.int .u8 (v.what.toNat:Int),v.text,(v.tag:Int),.slice A5 v.kids.length c5]:List Value).toArray u10 u8 ht aN bh ?_;exact lK
   ·have l9:L 9=true:=aL;go_simp;exact hK (U 9) _ _ Ac Ac (HR.o.as l9) aI
  rintro L U W hL hφ hR;clear hφ;obtain⟨v,A,c,B,hov,u10,u12,hB1,hB2,hrg,hiv,hbe⟩:=hR.fin (hL 6 aJ) (hL 8 aJ) (hL 10 aJ) (hL 11 aJ) (hL 12 aJ);simp only[u10,u12];have hb4:Below W3 W3 W:=(Ao _ _).drew.trans hbe;have B4:=Aa (B3.o.trans (hb4.mono B3.o.size));have T4:=Aa (Aj T3.o (show w.heap.size<W3.heap.size by omega) hb4);have Hev4:=Aa (Hev9.o.after hb4);have y0:=(hb4.cell (p:=⟨W2.heap.size,0,none⟩) (show W2.heap.size<W3.heap.size by omega)).trans X0.o;have y1:=(hb4.cell (p:=⟨W2.heap.size,1,none⟩) (show W2.heap.size<W3.heap.size by omega)).trans X1.o;have y2:=(hb4.cell (p:=⟨W2.heap.size,2,none⟩) (show W2.heap.size<W3.heap.size by omega)).trans X2.o;have y3:=(hb4.cell (p:=⟨W2.heap.size+1,0,none⟩) (show W2.heap.size+1<W3.heap.size by omega)).trans X3.o;have y4:=(hb4.cell (p:=⟨W2.heap.size+1,1,none⟩) (show W2.heap.size+1<W3.heap.size by omega)).trans X4.o;have y5:=(hb4.cell (p:=⟨W2.heap.size+1,2,none⟩) (show W2.heap.size+1<W3.heap.size by omega)).trans X5.o;have z0:W.cell? (B,0)=some (.int .u8 (v.what.toNat:Int)):=fB;have z1:W.cell? (B,1)=v.text:=by simpa using Ab hrg 1 rfl
  have z2:W.cell? (B,2)=(v.tag:Int):=by simpa using Ab hrg 2 rfl
  have z3:W.cell? (B,3)=some (.slice A v.kids.length c):=by simpa using Ab hrg 3 rfl
  have Hiv:=Aa hiv;have hz4:=hb4.size;clear hR hL u10 u12 hrg hiv hbe hb4 Hev9 B3 T3;cases o with
  |none=>
   have HN:=@Aa (Jw (some (S,a)) (some (T,b)) x=none) Hlift.o;simp only[Option.isSome_none];clear y0 y1 y2 y3 y4 y5 z0 z1 z2 z3;go_wp2_with ((with_reducible refine Af (op:=⟨none,.store 68 _ _,_,_,_,none⟩) rfl 68 _ _ rfl w 0 [.int .u8 0,a6,.int .i64 0,.slice none 0 0] ?_ ?_ ?_ ?_ ?_ ?_);rfl;rfl;(exact T4.o);kernel_rfl;(simp[Value.oneCell']);intro w9 HS9)
   have HZ:=(by rw[HS9.o];exact aa _ _ _ _ T4.o:w9.rangeAt w 0 (Gl Et (.slice none 0 0)))
   refine aF (v:=.tuple #[.agg (Gl Et (.slice none 0 0)).toArray,.bool false,.bool false]) (Jx results53 _ _ w.heap.size _ _ _ _ rfl rfl rfl HZ underlying68 rfl aN) rfl ?_;exact Zf.no HN.o rfl (by rw[HS9.o];exact Ai _ aH _ _ _ B4.o)
  |some vv=>
   obtain rfl:v=vv:=hov vv rfl;simp only[Option.isSome_some];obtain⟨R,hR,hK,hvok,hpx,hx4,_,_⟩:=Qbe HS.o HT.o Hgb.o He.o Ho.o;have HLf:=Aa (Qie hR HT.o HS.o xs ys Hxs.o Hys.o eb (.pointer p1) (.pointer p2) 12 a b v hK hvok Hga.o Hgb.o (by rw[hpx];omega) _ A v.kids.length c W Hev4.o Hiv.o);unfold D9 Ec at HLf;have HL:=@Aa (Jw (some (S,a)) (some (T,b)) x=some (Dc S 12 a v)) Hlift.o;generalize Dc S 12 a v=r at *;clear hR hK hvok hpx hx4 hov;go_wp2_with fail;refine HLf.o.mono ?_;rintro e w5 ⟨sl5,rfl,hs5,hb5⟩;obtain⟨A5,c5,rfl⟩:=hs5.form;have B5:=Aa (B4.o.trans (hb5.mono B4.o.size));have T5:=Aa (Aj T4.o (show w.heap.size<W.heap.size by omega) hb5);have Hs5:=Aa hs5;have hz5:=hb5.size;have T6:=Aa (fun o=>Aj T5.o (show w.heap.size<w5.heap.size by omega) ((Ao w5.heap.size w5).alloc (An _) o));clear hs5 hb5 y0 y1 y2 y3 y4 y5 z0 z1 z2 z3;unfold Ec;go_wp2_with ((with_reducible refine Af (op:=⟨none,.store 68 _ _,_,_,_,none⟩) rfl 68 _ _ rfl w 0 [.int .u8 (r.1.what.toNat:Int),r.1.text,(r.1.tag:Int),.slice A5 r.1.kids.length c5] ?_ ?_ ?_ ?_ ?_ ?_);rfl;rfl;(exact T6.o _);kernel_rfl;(simp[Value.oneCell']);intro w9 HS9)
   refine aF (v:=.tuple #[.agg (Ka (r.1,.slice A5 r.1.kids.length c5)).toArray,.bool r.2,.bool true]) (Jx results53 _ _ w.heap.size _ _ _ _ rfl rfl rfl (by rw[HS9.o];exact aa _ _ _ _ (T6.o _)) underlying68 rfl aN) rfl ?_;have hal:=(Ao w5.heap.size w5).alloc (An _) (.cells #[.int .u8 (r.1.what.toNat:Int),r.1.text,(r.1.tag:Int),.slice A5 r.1.kids.length c5] 68);refine⟨⟨r.1,.slice A5 r.1.kids.length c5,r.2,by rw[HL.o];rfl,?_,fun r' h=>by rw[HL.o]at h;injection h with h;subst h;exact⟨rfl,rfl⟩⟩,by rw[HS9.o];exact Ai _ aH _ _ _ (B5.o.trans (hal.mono B5.o.size))⟩;rw[HS9.o];exact((Hs5.o.after hal).set (B:=w.heap.size) (fun h=>by have h:W.heap.size<=w.heap.size:=h;omega) _).mono fun k hk _=>ad aH hk
theorem Qgi{s1 d1 s2 d2 x:List UInt8}{r:Vl × Bool}(h:Jw (Bm s1 d1) (Bm s2 d2) x=some r):Bd r.1/\r.2=(Az r.1 != x):=by
 cases h1:Bm s1 d1 with
 |none=>rw[h1]at h;cases h
 |some y1=>
  cases h2:Bm s2 d2 with
  |none=>rw[h1,h2]at h;cases h
  |some y2=>
   obtain⟨S,a⟩:=y1;obtain⟨T,b⟩:=y2;rw[h1,h2]at h;have h:(if Jk S T a b=true then(Gs T b x).map (Dc S 12 a)else none)=some r:=h;split at h
   ·rename_i he;cases hv:Gs T b x with
    |none=>rw[hv]at h;cases h
    |some v=>
     rw[hv]at h;injection h with h;subst h;obtain⟨_,_,_,_,hpx,_,hB,hL⟩:=Qbe (Dd h1).1 (Dd h2).1 (Dd h2).2.2.2.1 he hv;refine⟨hB,?_⟩;cases e:(Dc S 12 a v).2 with
     |false=>rw[hL.1 e,hpx];simp
     |true=>have:=hL.2 e;rw[hpx]at this;symm;rw[bne_iff_ne];intro e2;rw[e2]at this;omega
   cases h
theorem Qep(s1 d1 s2 d2 x:List UInt8)(w:World)(h1:s1.length<=4000000)(h2:d1.length<=4000000)(h3:s2.length<=4000000)(h4:d2.length<=4000000)(h5:x.length<=4000000):
  Calls prog 16 #[s1,d1,s2,d2,x] w (Qbr (Jw (Bm s1 d1) (Bm s2 d2) x) w):=by
 have H:=Aa (fun W=>Qdc s1 d1 s2 d2 x W h1 h2 h3 h4 h5);have HG:=Aa (fun r (h:Jw (Bm s1 d1) (Bm s2 d2) x=some r)=>(Qgi h).1);generalize Jw (Bm s1 d1) (Bm s2 d2) x=o at *;go_enter func16,ntmps16;go_wp2_with fail;refine(H.o _).mono ?_;rintro e w1 ⟨⟨v,sl,l,rfl,hs1,hr1⟩,hb1⟩;obtain⟨A1,c1,rfl⟩:=hs1.form;have Hb1:=Aa hb1;have Hr1:=Aa hr1;have hal:=(Ao w1.heap.size w1).alloc (An _) (.cells #[.int .u8 (v.what.toNat:Int),v.text,(v.tag:Int),.slice A1 v.kids.length c1] 68);have Hal:=Aa hal;have Hs1:=Aa (hs1.after hal);clear hb1 hr1 hal hs1;unfold Ec;cases o with
 |none=>
  simp only[Option.isSome_none];go_wp2_with fail;refine aF (v:=.tuple #[a6,.bool false]) (by simp[results,results16,go_sem]) rfl ?_;exact⟨rfl,Hb1.o.trans (Hal.o.mono Hb1.o.size)⟩
 |some r=>
  obtain⟨rfl,rfl⟩:=Hr1.o r rfl;have HP:=Aa (Py _ (HG.o r rfl) _ _ Hs1.o);unfold Ec at HP;simp only[Option.isSome_some];go_wp2_with fail;refine HP.o.mono ?_;rintro e w4 ⟨rfl,hb4⟩;have Hb4:=Aa ((Hb1.o.trans (Hal.o.mono Hb1.o.size)).trans (hb4.mono (Hb1.o.trans (Hal.o.mono Hb1.o.size)).size));clear hb4;go_wp2_with fail;refine aF (v:=.tuple #[.string ⟨(Az r.1).toArray⟩,.bool true]) (by simp[results,results16,go_sem]) rfl ?_;exact⟨rfl,Hb4.o⟩
theorem Qg7(k:Kd)(w:World)(hl:(Ax k).length<=100):
  Calls prog 58 #[D9 k] w fun e w'=>e=.returned (.string ⟨(Ax k).toArray⟩)/\Below w.heap.size w w':=by
 unfold D9
 by_cases h64:k.base=[64]
 ·have t1:(k.base == [64])=true:=by simp[h64]
  have HF:=Aa (show Ax k=k.signs++64::(k.name++[59])from by unfold Ax Bu;rw[if_pos h64])
  rw[HF.o]at hl
  simp only[List.length_append,List.length_cons]at hl
  have HB:=Aa (show Below w.heap.size w (w.alloc (.cells #[.string ⟨k.signs.toArray⟩,.string ⟨k.base.toArray⟩,.string ⟨k.name.toArray⟩] 60))from(Ao _ _).alloc (An _) _)
  clear h64
  go_enter func58,ntmps58
  go_wp2_with fail
  go_ret
  exact⟨by rw[HF.o];simp,HB.o⟩
 have t1:(k.base == [64])=false:=by simpa using h64
 have HF:=Aa (show Ax k=k.signs++k.base from by unfold Ax Bu;rw[if_neg h64])
 rw[HF.o]at hl
 simp only[List.length_append]at hl
 have HB:=Aa (show Below w.heap.size w (w.alloc (.cells #[.string ⟨k.signs.toArray⟩,.string ⟨k.base.toArray⟩,.string ⟨k.name.toArray⟩] 60))from(Ao _ _).alloc (An _) _)
 clear h64
 go_enter func58,ntmps58
 go_wp2_with fail
 go_ret
 exact⟨by rw[HF.o];rfl,HB.o⟩
def Xs(xs:List PT)(k:Kd):Option PT:=if k.signs=[]/\k.base=[64]then D8 xs k.name else none
theorem Qdq(p:Value)(xs:List PT)(k:Kd)(w:World)(h:Sd w p xs)(hk:k.name.length<=100)(hf:k.base=[64]->∃x,D8 xs k.name=some x):
  Calls prog 76 #[p,D9 k] w fun e w'=>e=.returned (.tuple #[Pq (Xs xs k),.bool ((Xs xs k).any fun x=>decide (x.ty.sort=82))])/\Below w.heap.size w w':=by
 obtain⟨b,mb,rfl,hb,hm,hn⟩:=h.map
 have ht:∀x∈xs,P8 w x:=by
  obtain⟨_,_,_,_,_,_,_,_,_,_,h,_⟩:=h
  exact h
 clear h
 obtain⟨w1,hw1⟩:∃w1,w1=w.alloc (.cells #[.string ⟨k.signs.toArray⟩,.string ⟨k.base.toArray⟩,.string ⟨k.name.toArray⟩] 60):=⟨_,rfl⟩
 have hb1:Below w.heap.size w w1:=by rw[hw1];exact(Ao _ _).alloc (An _) _
 have Hb1:=Aa hb1
 have x1:w1.cell? ⟨w.heap.size,1,none⟩=some (.string ⟨k.base.toArray⟩):=by rw[hw1];simp
 have x2:w1.cell? ⟨w.heap.size,2,none⟩=some (.string ⟨k.name.toArray⟩):=by rw[hw1];simp
 have x0:w1.cell? ⟨w.heap.size,0,none⟩=some (.string ⟨k.signs.toArray⟩):=by rw[hw1];simp
 have l1:w.heap.size<w1.heap.size:=by rw[hw1];simp
 have x3:w1.cell? ⟨b,1,none⟩=some (.map (some mb)):=(hb1.cell (p:=⟨b,1,none⟩) hb).trans hm
 have l3:b<w1.heap.size:=by omega
 have HL:=Aa (fun W (hW:Below w1.heap.size w1 W)=>E8 (Dp.below (Dp.below hn hb1) hW) k.name (by omega))
 have Hw1:=Aa hw1
 by_cases hs:k.signs=[]
 ·by_cases hbs:k.base=[64]
  ·obtain⟨x,hx⟩:=hf hbs
   obtain⟨hy0,_,hy1,_⟩:=ht x (D5 hx).1
   have y0:w1.cell? ⟨x.blk,0,none⟩=some (.int .u8 (x.ty.sort.toNat:Int)):=(hb1.cell (p:=⟨x.blk,0,none⟩) hy0).trans hy1
   have l4:x.blk<w1.heap.size:=by omega
   have HR:=Aa (show Xs xs k=some x by unfold Xs;rw[if_pos ⟨hs,hbs⟩,hx])
   rw[hx]at HL
   unfold Pq PT.ptr at HL
   rw[HR.o,Option.any_some]
   unfold Pq PT.ptr
   have t1:(!k.signs.isEmpty)=false:=by simp[hs]
   have t1':k.signs.isEmpty=true:=by simp[hs]
   have t2:(k.base != [64])=false:=by simp[hbs]
   have t2':(k.base == [64])=true:=by simp[hbs]
   clear hf ht hs hbs hx hy0 hy1 hm hn hw1 hb1 HR
   have HZ:=Aa (show ∀z:UInt8,decide ((z.toNat:Int)=82)=decide (z=82)from fun z=>by
    rw[decide_eq_decide]
    exact⟨fun h=>UInt8.toNat_inj.1 (by show z.toNat=82;omega),fun h=>by rw[h];rfl⟩)
   generalize x.ty.sort=z at *
   unfold D9
   go_enter func76,ntmps76
   go_wp2_with fail
   generalize hwg:World.alloc w _=wg
   obtain rfl:w1=wg:=Hw1.o.trans hwg
   clear hwg
   refine rgB ?_
   iterate 6 refine sq ?_
   refine sqX (fun v=>v=.pointer (some ⟨x.blk,0,none⟩)) ?_ ?_
   ·intro l u W hl hp hF hG hi K hK
    have hlk:=HL.o W hF.o
    unfold Jz at hG
    simp[Region.binds,Fb]at hp
    go_simp
    exact hK _ _ _ rfl hF.o (by simp[Act.put,hp])
   refine sq ?_
   refine dnB fun w5 HB=>?_
   have y5:w5.cell? ⟨x.blk,0,none⟩=some (.int .u8 (z.toNat:Int)):=(HB.o.cell (p:=⟨x.blk,0,none⟩) l4).trans y0
   have l5:=Nat.lt_of_lt_of_le l4 HB.o.size
   have Hb5:=Aa (Hb1.o.trans (HB.o.mono (by omega)))
   clear HB HL x0 x1 x2 x3 y0 l1 l3 l4
   go_wp2_with fail
   refine rgB ?_
   iterate 8 refine sq ?_
   refine dnB fun w6 HB=>?_
   have Hb6:=Aa (Hb5.o.trans (HB.o.mono Hb5.o.size))
   clear HB y5 l5
   go_wp2_with fail
   go_ret2
   exact⟨by rw[<-HZ.o z];rfl,Hb6.o⟩
  have HR:=Aa (show Xs xs k=none by unfold Xs;rw[if_neg (fun h=>hbs h.2)])
  rw[HR.o,Option.any_none]
  unfold Pq
  have t1:(!k.signs.isEmpty)=false:=by simp[hs]
  have t1':k.signs.isEmpty=true:=by simp[hs]
  have t2:(k.base != [64])=true:=by simp[hbs]
  have t2':(k.base == [64])=false:=by simp[hbs]
  clear hf ht hs hbs hm hn hw1 hb1 HR HL
  unfold D9
  go_enter func76,ntmps76
  go_wp2_with fail
  generalize hwg:World.alloc w _=wg
  obtain rfl:w1=wg:=Hw1.o.trans hwg
  clear hwg
  go_wp2_with fail
  go_ret2
  exact⟨rfl,Hb1.o⟩
 have HR:=Aa (show Xs xs k=none by unfold Xs;rw[if_neg (fun h=>hs h.1)])
 rw[HR.o,Option.any_none]
 unfold Pq
 have t1:(!k.signs.isEmpty)=true:=by simp[hs]
 have t1':k.signs.isEmpty=false:=by simp[hs]
 clear hf ht hs hm hn hw1 hb1 HR HL
 unfold D9
 go_enter func76,ntmps76
 go_wp2_with fail
 generalize hwg:World.alloc w _=wg
 obtain rfl:w1=wg:=Hw1.o.trans hwg
 clear hwg
 go_wp2_with fail
 go_ret2
 exact⟨rfl,Hb1.o⟩
section
variable {P:Program}
theorem Sf{fn:Func}{r p p2 q:Tmp}{ty ty2:TypeId}(h:fn.results=#[.tmp r,.cell p ty,.cell p2 ty2,.tmp q])(tmps:Array Value)(w:World)(b b2:Nat)(cs cs2:List Value)(d d2:TypeDesc)(y x:Value)
  (hr:tmps.getD r undef=y) (hp:tmps.getD p undef=b) (hp2:tmps.getD p2 undef=b2) (hq:tmps.getD q undef=x) (hc:w.rangeAt b 0 cs) (hc2:w.rangeAt b2 0 cs2)
  (hu:P.underlying ty=some d) (hd:d.isRow=true) (hi:(P.info? ty).map (·.size)=some cs.length) (hu2:P.underlying ty2=some d2) (hd2:d2.isRow=true) (hi2:(P.info? ty2).map (·.size)=some cs2.length):
  (results fn tmps).run P w=.ok (.tuple #[y,.agg cs.toArray,.agg cs2.toArray,x]) w:=by
 have hp':tmps[p]?.getD undef=b:=ef;have hp2':tmps[p2]?.getD undef=b2:=by simpa using hp2
 have hq':tmps[q]?.getD undef=x:=f7;have hr':tmps[r]?.getD undef=y:=dz;simp[results,h,hp',hp2',hq',hr',asAddr,run_loadVar_mid w b 0 ty cs d hc hu hd hi,run_loadVar_mid w b2 0 ty2 cs2 d2 hc2 hu2 hd2 hi2]
end
theorem Qa.low{lo lo':Nat}{w:World}{p:Value}{xs:List PT}(h:Qa lo w p xs)(hl:lo'<=lo):Qa lo' w p xs:=by
 obtain⟨b,A,c,mb,e,h0,h1,h2,h3,h4,h5,h6,l1,l2,l3,l4⟩:=h;exact⟨b,A,c,mb,e,h0,h1,h2,h3,h4,h5,h6,by omega,by omega,fun g o hn e=>by have:=l3 g o hn e;omega,fun x hx=>⟨by have:=(l4 x hx).1;omega,fun k hn hk=>by have:=(l4 x hx).2 k hn hk;omega⟩⟩
def Qca(o:Option (List Ty × Kd))(x:List UInt8)(w:World)(e:Ending)(w':World):Prop:=
 (∃p k1 k2 k3 v sl,e=.returned (.tuple #[.pointer p,.agg #[.string k1,.string k2,.string k3],Ec v sl,.bool (Xr o x).isSome])/\Ea (fun c=>w.heap.size<=c) w' sl v.kids /\
  ∀y,Xr o x=some y->v=y/\∃S k xs,o=some (S,k)/\Ag xs=S/\k1=⟨k.signs.toArray⟩/\k2=⟨k.base.toArray⟩/\k3=⟨k.name.toArray⟩/\Qa w.heap.size w' (.pointer p) xs)/\Below w w w'
theorem Qca.no{o:Option (List Ty × Kd)}{x:List UInt8}{w w':World}{e:Ending}(ho:Xr o x=none){p:Option Addr}{k1 k2 k3:ByteArray}{v:Vl}{sl:Value}(he:e=.returned (.tuple #[.pointer p,.agg #[.string k1,.string k2,.string k3],Ec v sl,.bool false]))(hs:Ea (fun c=>w.heap.size<=c) w' sl v.kids)(hb:Below w w w'):Qca o x w e w':=by
 refine⟨⟨p,k1,k2,k3,v,sl,by rw[ho];exact he,hs,fun y hy=>?_⟩,hb⟩;rw[ho]at hy;cases hy
theorem Qgb(s d x:List UInt8)(w:World)(hs:s.length<=4000000)(hd:d.length<=4000000)(hx:x.length<=4000000):
  Calls prog 49 #[s,d,x] w (Qca (Bm s d) x w):=by
 have Hbo:=Aa (fun W=>Tx s d W hs hd);have HGo:=Aa (fun S k (h:Bm s d=some (S,k))=>Dd h);generalize Bm s d=o at *;go_enter func49,ntmps49;go_wp2_with fail;obtain⟨W1,hW1⟩:∃W1,W1=(w.alloc (.cells #[a6,a6,a6] 60)).alloc (.cells #[.int .u8 0,a6,.int .i64 0,.slice none 0 0] 68):=⟨_,rfl⟩
 rw[<-hW1];have hz1:W1.heap.size=w.heap.size+2:=cG;have B1:=Aa (show Below w w W1 by rw[hW1];exact((Ao _ _).alloc (An _) _).alloc aK _);have TK1:=Aa (show W1.there w 0 3 by rw[hW1];exact ar (Bz w [a6,a6,a6] 60) _);have TV1:=Aa (show W1.there (w.heap.size+1) 0 4 by rw[hW1];have:=Bz (w.alloc (.cells #[a6,a6,a6] 60)) [.int .u8 0,a6,.int .i64 0,.slice none 0 0] 68;simpa using this);clear hW1;refine(Hbo.o W1).mono ?_;rintro e W2 ⟨hcase,hb2⟩;have hz2:=hb2.size;have TK2:=Aa (Aj TK1.o aH hb2);have TV2:=Aa (Aj TV1.o aH hb2);have B2:=Aa (B1.o.trans (hb2.mono aH));clear hb2;cases o with
 |none=>
  obtain⟨p,a,b,c,rfl⟩:=hcase;obtain⟨W3,hW3⟩:∃W3,W3=W2.alloc (.cells #[.string a,.string b,.string c] 60):=⟨_,rfl⟩
  have hb3:Below W2 W2 W3:=gy;have TK3:=Aa (Aj TK2.o aH hb3);have TV3:=Aa (Aj TV2.o aH hb3);have B3:=Aa (B2.o.trans (hb3.mono B2.o.size));have HW3:=Aa hW3;clear hb3 hW3;go_wp2_with (first|((with_reducible refine Af (op:=⟨none,.store 60 _ _,_,_,_,none⟩) rfl 60 _ _ rfl w 0 [a6,a6,a6] ?_ ?_ ?_ ?_ ?_ ?_);rfl;rfl;(rw[<-HW3.o];exact TK3.o);kernel_rfl;(simp[Value.oneCell']);intro w8 HS8)|((with_reducible refine Af (op:=⟨none,.store 68 _ _,_,_,_,none⟩) rfl 68 _ _ rfl (w.heap.size+1) 0 [.int .u8 0,a6,.int .i64 0,.slice none 0 0] ?_ ?_ ?_ ?_ ?_ ?_);rfl;rfl;(rw[HS8.o,<-HW3.o];exact ai TV3.o _ _ _);kernel_rfl;(simp[Value.oneCell']);intro w9 HS9))
  rw[<-HW3.o]at HS8;have TV8:=Aa (show w8.there (w.heap.size+1) 0 4 by rw[HS8.o];exact ai TV3.o _ _ _);have RK8:=Aa (show w8.rangeAt w 0 [a6,a6,a6]by rw[HS8.o];exact aa _ _ _ _ TK3.o);have B8:=Aa (show Below w w w8 by rw[HS8.o];exact Ai _ (An _) _ _ _ B3.o);have RK9:=(by rw[HS9.o];exact ak RK8.o _ _ _ (.inl aH):w9.rangeAt w 0 [a6,a6,a6])
  have RV9:=(by rw[HS9.o];exact aa _ _ _ _ TV8.o:w9.rangeAt (w.heap.size+1) 0 [.int .u8 0,a6,.int .i64 0,.slice none 0 0])
  refine aF (v:=.tuple #[.pointer none,.agg ([a6,a6,a6]:List Value).toArray,.agg ([.int .u8 0,a6,.int .i64 0,.slice none 0 0]:List Value).toArray,.bool false]) ?_ rfl ?_
  ·exact Sf results49 _ _ w.heap.size (w.heap.size+1) _ _ _ _ _ _ rfl rfl rfl rfl RK9 RV9 underlying60 rfl aN underlying68 rfl aN
  exact Qca.no (v:=Et) (sl:=.slice none 0 0) rfl rfl (Ea.nil _ _) (by rw[HS9.o];exact Ai _ aH _ _ _ B8.o)
 |some y=>
  obtain⟨S,k⟩:=y;obtain⟨p,xs,rfl,rfl,hsl⟩:=hcase;obtain⟨g1,_,_,g4,_,g6⟩:=HGo.o _ k rfl;have Hsl:=@Aa (Qa (w.heap.size+2) W2 p xs) (by rw[<-hz1];exact hsl);obtain⟨pb,_,_,_,rfl,_⟩:=hsl;have Hrd:=Aa (fun W (h:Sd W pb xs)=>Qba pb xs g1 k g4 g6 x W h hx);have HV:=@Aa (Xr (some (Ag xs,k)) x=Gs (Ag xs) k x) rfl;generalize Gs (Ag xs) k x=o at *;clear g1 g4 g6 HGo Hbo;obtain⟨W3,hW3⟩:∃W3,W3=W2.alloc (.cells #[k.signs,k.base,k.name] 60):=⟨_,rfl⟩
  have hb3:Below W2 W2 W3:=gy;have TK3:=Aa (Aj TK2.o aH hb3);have TV3:=Aa (Aj TV2.o aH hb3);have B3:=Aa (B2.o.trans (hb3.mono B2.o.size));have SL3:=Aa (Hsl.o.below hb3);have RS3:=Aa (show W3.rangeAt W2 0 [k.signs,k.base,k.name]by rw[hW3];exact Bo W2 [k.signs,k.base,k.name] 60);have hz3:W3.heap.size=W2.heap.size+1:=fr;have HW3:=Aa hW3;clear hb3 hW3;unfold D9 at Hrd ⊢;go_wp2_with fail;rw[<-HW3.o];refine(Hrd.o W3 SL3.o.isc).mono ?_;rintro e W4 ⟨⟨vl,sl,rfl,hs4,hx4⟩,hb4⟩;obtain⟨A4,c4,rfl⟩:=hs4.form;have hz4:=hb4.size;have Hx4:=Aa hx4;obtain⟨W5,hW5⟩:∃W5,W5=W4.alloc (.cells #[.int .u8 (vl.what.toNat:Int),vl.text,(vl.tag:Int),.slice A4 vl.kids.length c4] 68):=⟨_,rfl⟩
  have hb45:Below W4 W4 W5:=ep;have hb5:Below W3 W3 W5:=hb4.trans (hb45.mono hb4.size);have TK5:=Aa (Aj TK3.o aH hb5);have TV5:=Aa (Aj TV3.o aH hb5);have B5:=Aa (B3.o.trans (hb5.mono B3.o.size));have SL5:=Aa (SL3.o.below hb5);have RS5:=Aa (Ah RS3.o aH hb5);have RV5:=Aa (show W5.rangeAt W4 0 (Ka (vl,.slice A4 vl.kids.length c4))by rw[hW5];exact Bo W4 (Ka (vl,.slice A4 vl.kids.length c4)) 68);have HS5:=Aa ((hs4.after hb45).mono (Q:=fun c=>w.heap.size+2<=c) fun c hc _=>by have:W3.heap.size<=c:=hc;omega);have HW5:=Aa hW5;have hz5:W4.heap.size<W5.heap.size:=da;clear hW5 hb45 hb5 hb4 hs4 hx4 Hrd;unfold Ec;go_upto_region 5 with fail
  rw[<-HW5.o];refine Jd [32,33,34,35,6,999,998,9]
   (fun ix v W=>match ix with|0=>v=pb|1=>v=.agg #[k.signs,k.base,k.name]|2=>v=.agg #[.int .u8 (vl.what.toNat:Int),vl.text,(vl.tag:Int),.slice A4 vl.kids.length c4]|3=>v=.bool o.isSome|4=>v=pb|7=>v=.bool o.isSome|_=>True)
   (fun L U W=>Below w w W/\W.there w 0 3/\W.there (w.heap.size+1) 0 4/\W.rangeAt W2 0 [k.signs,k.base,k.name]/\W.rangeAt W4 0 (Ka (vl,.slice A4 vl.kids.length c4))/\Qa (w.heap.size+2) W pb xs/\Ea (fun c=>w.heap.size+2<=c) W (.slice A4 vl.kids.length c4) vl.kids/\(L 5=true->W.rangeAt w 0 [k.signs,k.base,k.name])/\(L 6=true->W.rangeAt (w.heap.size+1) 0 (Ka (vl,.slice A4 vl.kids.length c4)))) (⟨B5.o.drew,by simpa using TK5.o,by simpa using TV5.o,by simpa using RS5.o,by simpa using RV5.o,SL5.o.below ((Ao _ _).drew),HS5.o.after ((Ao _ _).drew),fun h=>Bool.noConfusion h,fun h=>Bool.noConfusion h⟩) ?_ ?_
  ·repeat (first|exact Ak.nil|(refine Ak.cons ?_ ?_;rotate_left))
   all_goals
    rintro L U W hL hpre HR Hdep K hK;obtain⟨r1,r2,r3,r4,r5,r6,r7,r8,r9⟩:=HR.o;have c0:W.cell? (W2,0)=k.signs:=by simpa using Ab r4 0 rfl
    have c1:W.cell? (W2,1)=k.base:=by simpa using Ab r4 1 rfl
    have c2:W.cell? (W2,2)=k.name:=by simpa using Ab r4 2 rfl
    have d0:W.cell? (W4,0)=some (.int .u8 (vl.what.toNat:Int)):=by simpa using Ab r5 0 rfl
    have d1:W.cell? (W4,1)=vl.text:=by simpa using Ab r5 1 rfl
    have d2:W.cell? (W4,2)=(vl.tag:Int):=by simpa using Ab r5 2 rfl
    have d3:W.cell? (W4,3)=some (.slice A4 vl.kids.length c4):=by simpa using Ab r5 3 rfl
    first|(simp[Region.binds]at hpre;done)|simp[Region.binds]at hpre|clear hpre
   iterate 5
    ·exact hD
   ·have u1:U 1=.agg #[k.signs,k.base,k.name]:=dM;rw[if_pos cr];refine wp_store_mid 60 _ _ rfl w 0 ([k.signs,k.base,k.name]:List Value).toArray rfl u1 r2 aN bh ?_;exact hK undef _ _ Ac Ac ⟨Ai _ (An _) _ _ _ r1,ai r2 _ _ _,ai r3 _ _ _,ak r4 _ _ _ (.inl aH),ak r5 _ _ _ (.inl aH),r6.far (Dn _ _ _ W) aH,r7.grown (Dn _ _ _ W) (fun b hb e=>by injection e with e;have:w.heap.size+2<=b:=hb;omega),fun _=>aa _ _ _ _ r2,fun h=>ak (r9 h) _ _ _ (.inl aH)⟩ rfl
   ·have u1:U 2=.agg #[.int .u8 (vl.what.toNat:Int),vl.text,(vl.tag:Int),.slice A4 vl.kids.length c4]:=dM;rw[if_pos cr];refine wp_store_mid 68 _ _ rfl (w.heap.size+1) 0 (Ka (vl,.slice A4 vl.kids.length c4)).toArray rfl u1 r3 aN (by simp[Ka,Value.oneCell']) ?_;exact hK undef _ _ Ac Ac ⟨Ai _ aH _ _ _ r1,ai r2 _ _ _,ai r3 _ _ _,ak r4 _ _ _ (.inl aH),ak r5 _ _ _ (.inl aH),r6.far (Dn _ _ _ W) aH,r7.grown (Dn _ _ _ W) (fun b hb e=>by injection e with e;have:w.heap.size+2<=b:=hb;omega),fun h=>ak (r8 h) _ _ _ (.inl aH),fun _=>aa _ _ _ _ r3⟩ rfl
   ·exact hD
  rintro L U W hL hφ hR;have e4:U 4=pb:=hφ 4 aJ;have e7:U 7=.bool o.isSome:=hφ 7 aJ;simp only[e4,e7];clear hφ;obtain⟨r1,r2,r3,r4,r5,r6,r7,r8,r9⟩:=hR;have R1:=Aa r1;have R6:=Aa r6;have R7:=Aa r7;have R8:=Aa (r8 (hL 5 aJ));have R9:=Aa (r9 (hL 6 aJ));clear hL r1 r2 r3 r4 r5 r6 r7 r8 r9;go_wp2_with fail;refine aF (v:=.tuple #[pb,.agg ([k.signs,k.base,k.name]:List Value).toArray,.agg (Ka (vl,.slice A4 vl.kids.length c4)).toArray,.bool o.isSome]) ?_ rfl ?_
  ·exact Sf results49 _ _ w.heap.size (w.heap.size+1) _ _ _ _ _ _ rfl rfl rfl rfl R8.o R9.o underlying60 rfl aN underlying68 rfl aN
  refine⟨⟨_,_,_,_,vl,_,by rw[HV.o];rfl,R7.o.mono (fun c hc _=>by have:w.heap.size+2<=c:=hc;omega),fun y hy=>?_⟩,R1.o⟩;rw[HV.o]at hy;exact⟨Hx4.o y hy,_,k,xs,rfl,rfl,rfl,rfl,rfl,R6.o.low aH⟩
end
end Go.Proofs.YtmmhmlmfhpfgbaaGreatDoor
