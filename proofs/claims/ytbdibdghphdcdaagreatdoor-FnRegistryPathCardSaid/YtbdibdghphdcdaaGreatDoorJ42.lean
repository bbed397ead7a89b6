/- Texts joined. Conditions: as each theorem names them. -/
import Derived.Deep.CutRange
import Derived.Deep.DeepCutAuto
import Derived.Test.YtbdibdghphdcdaaGreatDoorJ41
set_option maxRecDepth 100000
set_option maxHeartbeats 32000000
set_option linter.unusedVariables false
set_option linter.unusedSimpArgs false
namespace Go.Proofs.YtbdibdghphdcdaaGreatDoor
open Go.RowKit Go.Proofs.Tryz
section
attribute [local go_sem] Qo7 Qok Qoa Ql9 ByteArray.mk_append_mk
theorem Qib(P:Nat->Prop)(w:World)(eb:Nat)(c0:UInt8)(sg ab an bb bn:List UInt8)(hsg:sg.length<=1000)(vv:Vl)(A2:Option Addr)(c2:Nat)(hiv:Eh P w (.slice A2 vv.kids.length c2) vv.kids)(KF:Vl->Vl × Bool)
  (HK:∀x∈vv.kids,∀W A n c,Below w w W->Eh P W (.slice A n c) x.kids->Calls prog 31 #[eb,Et ⟨sg,ab,an⟩,Et ⟨sg,bb,bn⟩,Er x (.slice A n c)] W (Na (KF x) W)):
  Calls prog 31 #[eb,Et ⟨c0::sg,ab,an⟩,Et ⟨c0::sg,bb,bn⟩,Er vv (.slice A2 vv.kids.length c2)] w (Na (.mk vv.what vv.text vv.tag (vv.kids.map fun x=>(KF x).1),vv.kids.any fun x=>(KF x).2) w):=by
 have hmf:∀(fn:Fn) (first cap:Array Value) (w:World),(Instr.makeFunc fn first cap).run prog w=.ok (.func fn first cap) w:=fun _ _ _ _=>rfl;obtain⟨W5,hW5⟩:∃W5,W5=((((w.alloc (.cells #[eb] 68)).alloc (.cells #[(c0::sg:List UInt8),ab,an] 50)).alloc (.cells #[(c0::sg:List UInt8),bb,bn] 50)).alloc (.cells #[.int .u8 (vv.what.toNat:Int),vv.text,(vv.tag:Int),.slice A2 vv.kids.length c2] 44)).alloc (.cells #[.int .u8 0,a6,.int .i64 0,.slice none 0 0] 44):=⟨_,rfl⟩
 obtain⟨W6,hW6⟩:∃W6,W6=W5.alloc (.cells #[.int .u8 (vv.what.toNat:Int),vv.text,(vv.tag:Int),.slice none 0 0] 44):=⟨_,rfl⟩
 obtain⟨W7,hW7⟩:∃W7,W7=W6.alloc (.cells #[.bool false] 4):=⟨_,rfl⟩
 have hz5:W5.heap.size=w.heap.size+5:=d7;have hz6:W6.heap.size=w.heap.size+6:=by rw[hW6];simp;omega
 have hz7:W7.heap.size=w.heap.size+7:=by rw[hW7];simp;omega
 have hb5:Below w w W5:=il;have hb56:Below W5 W5 W6:=di;have hb67:Below W6 W6 W7:=gO
 have L7:=Aa (show LiS w W7 W7 (.int .u8 (vv.what.toNat:Int)) vv.text (vv.tag:Int) false (.slice none 0 0) []from by
  have hB:Rj W6 (w.heap.size+5):=by rw[hW6,<-hz5];exact Rj.new _ _ _
  have hc:∀o u,(#[.int .u8 (vv.what.toNat:Int),vv.text,(vv.tag:Int),.slice none 0 0]:Array Value)[o]?=some u->W7.cell? ⟨w.heap.size+5,o,none⟩=some u:=fun o u hu=>by
   exact mC
  refine⟨(hb5.trans (hb56.mono aH)).trans (hb67.mono aH),Ap _ _,⟨by omega,by omega,by omega,hB.belowAt aH hb67,hc 0 _ rfl,hc 1 _ rfl,hc 2 _ rfl,hc 3 _ rfl,World.ownsRow_nil _ _ _ _,by simp⟩,?_,?_⟩
  ·rw[hW7,<-hz6];simp[World.cell?_alloc_new]
  rw[hW7,<-hz6];simp[go_sem])
 have T5:=Aa (show W5.there (w.heap.size+4) 0 4 from by
  have h:=Bu ((((w.alloc (.cells #[eb] 68)).alloc (.cells #[(c0::sg:List UInt8),ab,an] 50)).alloc (.cells #[(c0::sg:List UInt8),bb,bn] 50)).alloc (.cells #[.int .u8 (vv.what.toNat:Int),vv.text,(vv.tag:Int),.slice A2 vv.kids.length c2] 44)) [.int .u8 0,a6,.int .i64 0,.slice none 0 0] 44;rw[<-hW5]at h;simpa using h)
 have T7:=Aa (Aj (Aj T5.o aH hb56) aH hb67);have hc57:∀b o,b<w.heap.size+5->W7.cell? ⟨b,o,none⟩=W5.cell? ⟨b,o,none⟩:=fun b o hb=>(hb67.cell (p:=⟨b,o,none⟩) (show b<W6.heap.size by omega)).trans (hb56.cell (p:=⟨b,o,none⟩) (show b<W5.heap.size by omega));have E0:=@Aa (W7.cell? (w,0)=eb) bT;have EA0:=@Aa (W7.cell? (w,1,0)=(c0::sg:List UInt8)) bT;have EA1:=@Aa (W7.cell? (w,1,1)=ab) bT;have EA2:=@Aa (W7.cell? (w,1,2)=an) bT;have EB0:=@Aa (W7.cell? (w,2,0)=(c0::sg:List UInt8)) bT;have EB1:=@Aa (W7.cell? (w,2,1)=bb) bT;have EB2:=@Aa (W7.cell? (w,2,2)=bn) bT;have EV3:=@Aa (W7.cell? (w,3,3)=some (.slice A2 vv.kids.length c2)) bT;clear hc57 hb5 hb56 hb67 hz5 hz6;have HK:=Aa HK;have Hiv:=Aa hiv;obtain⟨A',c',ks,hv,hkk,hl,hr,hP,hks⟩:=hiv;injection hv with hv1 hv2 hv3;subst hv1 hv3;have Hr:=Aa hr;have Hks:=Aa hks;have Hkk:=Aa hkk;have hkl:vv.kids.length<=1000:=aH;have Hkn:=@Aa (vv.kids.length=ks.length) (by simpa using hv2);clear hkk hr hP hks hv2 hl;unfold Et Er;go_enter func31,ntmps31;go_upto_region 4 with fail
 rw[<-hW5,<-hW6,<-hW7];clear hW5 hW6 hW7 T5;have e1:=EA0.o;have e2:=EV3.o;go_wp2_with fail;clear e1 e2;go_loopw [35] (fun ix wr=>∃(i:Nat) (A:Option Addr) (c:Nat) (l:Bool) (xs:List (Vl × Value)),ix=(i:Int)/\i<=vv.kids.length/\Hid (xs.map (·.1)=(vv.kids.take i).map fun x=>(KF x).1)/\Hid (l=(vv.kids.take i).any fun x=>(KF x).2)/\xs.length<=1000/\Hid (LiS w W7 wr (.int .u8 (vv.what.toNat:Int)) vv.text (vv.tag:Int) l (.slice A xs.length c) xs)) (fun ix _=>vv.kids.length - (intOf ix).toNat)
 case atStart=>exact⟨0,none,0,false,[],rfl,ag _,rfl,rfl,by simp,L7.o⟩
 case round=>
  obtain⟨i,A,c,l,xs,rfl,hi,Hxs,Hl,hxl,HL⟩:=hrel;have i0:(0:Int)<=(i:Int):=aH;by_cases hlt:i<vv.kids.length
  ·have i1:(i:Int)<(vv.kids.length:Int):=aH;have hik:i<ks.length:=by have:=Hkn.o;omega
   obtain⟨B2,o2,rfl,hBl,x0,x1,x2,x3⟩:=Eh.at_ Hr.o hik;have hxk:=Hks.o _ (ae hik);have hxe:vv.kids[i]=(ks[i]'hik).1:=by have:=Hkk.o;simp only[this,Bi];simp
   have hxm:(ks[i]'hik).1∈vv.kids:=hxe ▸ ae hlt;have Htk:=@Aa (vv.kids.take (i+1)=vv.kids.take i++[(ks[i]'hik).1]) (by rw[List.take_succ_eq_append_getElem hlt,hxe]);generalize ks[i]'hik=y at *;obtain⟨x,slx⟩:=y;simp only at x0 x1 x2 x3 hxk hxm Htk;obtain⟨A9,c9,rfl⟩:=hxk.form;have hBr:B2<wr.heap.size:=ac hBl HL.o.bel.size;have y0:=(HL.o.bel.cell (p:=⟨B2,o2+i*4,none⟩) hBl).trans x0;have y1:=(HL.o.bel.cell (p:=⟨B2,o2+i*4+1,none⟩) hBl).trans x1;have y2:=(HL.o.bel.cell (p:=⟨B2,o2+i*4+2,none⟩) hBl).trans x2;have y3:=(HL.o.bel.cell (p:=⟨B2,o2+i*4+3,none⟩) hBl).trans x3;obtain⟨W1,hW1⟩:∃W1,W1=wr.alloc (.cells #[.int .u8 (x.what.toNat:Int),x.text,(x.tag:Int),.slice A9 x.kids.length c9] 44):=⟨_,rfl⟩
   have hb1:Below wr wr W1:=gN;have HL1:=Aa (HL.o.after hb1);have Z0:=@Aa (W1.cell? (wr,0)=some (.int .u8 (x.what.toNat:Int))) dG;have Z1:=@Aa (W1.cell? (wr,1)=x.text) dG;have Z2:=@Aa (W1.cell? (wr,2)=(x.tag:Int)) dG;have Z3:=@Aa (W1.cell? (wr,3)=some (.slice A9 x.kids.length c9)) dG;have hzr:wr.heap.size<W1.heap.size:=cm;have Hx:=@Aa (Eh P w (.slice A9 x.kids.length c9) x.kids) hxk;have HCP:=@Aa (∀(ab an:List UInt8) W,Calls prog 58 #[Et ⟨c0::sg,ab,an⟩] W fun e w'=>e=.returned (Et ⟨sg,ab,an⟩)/\Below W W w') (fun ab an W=>Vy ⟨c0::sg,ab,an⟩ W c0 sg rfl hsg)
   have HC:=Aa (show ∀W,Below W1 W1 W->Calls prog 57 #[Et ⟨sg,ab,an⟩,Et ⟨sg,bb,bn⟩,Er x (.slice A9 x.kids.length c9),w.heap.size,(w,6,0)] W (Qch (KF x) l (w.heap.size+6) W)from fun W hW=>by
    have hL:=HL1.o.after hW;have hbs:w.heap.size+6<W.heap.size:=hL.st.bs;exact Qg8 W eb w.heap.size (w.heap.size+6) aH hbs ((hL.keep.cell (p:=⟨w.heap.size,0,none⟩) (show w.heap.size<w.heap.size+5 by omega)).trans E0.o) l hL.c6 hL.f6 ⟨sg,ab,an⟩ ⟨sg,bb,bn⟩ x A9 _ c9 (KF x) fun W' hW'=>HK.o x hxm W' A9 _ c9 (hL.bel.trans (hW'.mono hL.bel.size)) (Hx.o.after (hL.bel.trans (hW'.mono hL.bel.size))))
   unfold Et at HCP HC;unfold Er at HC;clear x0 x1 x2 x3 hxk hxe hb1;go_upto_region 8 with fail
   rw[<-hW1];clear hW1 y0 y1 y2 y3;refine Jo [39,40,41,42,43,44,45,46,47,48,49,50,999]
    (fun ix v W=>match ix with|0=>v=(w,5,3)|1=>v=.slice A xs.length c|2=>v=.func (.func 57) #[] #[w.heap.size,(w,6,0)]|3=>v=.agg #[(c0::sg:List UInt8),ab,an]|4=>v=.agg #[sg,ab,an]|5=>v=.agg #[(c0::sg:List UInt8),bb,bn]|6=>v=.agg #[sg,bb,bn]|7=>v=.agg #[.int .u8 (x.what.toNat:Int),x.text,(x.tag:Int),.slice A9 x.kids.length c9]|11=>v=(w,5,3)|_=>True)
    (fun L U W=>Nu w W7 W1.drew (.int .u8 (vv.what.toNat:Int)) vv.text (vv.tag:Int) l A c xs (KF x) (L 8) (L 9) (L 10) (L 12) (U 8) (U 9) (U 10) W) (Nu.start) ?_ ?_
   ·repeat (first|exact Ak.nil|(refine Ak.cons ?_ ?_;rotate_left))
    all_goals
     rintro L U W hL hpre HR Hdep K hK;first|(simp[Region.binds]at hpre;done)|simp[Region.binds]at hpre|clear hpre
    ·exact ip
    ·have h10:L 10=false:=Az Hdep.o 10 1 rfl hL;have x3:=HR.o.c3 (HL1.o.after (Ap _ _).drew) h10;exact lq
    ·exact ip
    ·have h8:L 8=false:=Az Hdep.o 8 4 rfl (Az Hdep.o 4 3 rfl hL);have hLw:=(HL1.o.after (Ap _ _).drew).after (HR.o.s0 h8);have a0:=(hLw.keep.cell (p:=⟨w.heap.size+1,0,none⟩) (show w.heap.size+1<w.heap.size+5 by omega)).trans EA0.o;have a1:=(hLw.keep.cell (p:=⟨w.heap.size+1,1,none⟩) (show w.heap.size+1<w.heap.size+5 by omega)).trans EA1.o;have a2:=(hLw.keep.cell (p:=⟨w.heap.size+1,2,none⟩) (show w.heap.size+1<w.heap.size+5 by omega)).trans EA2.o;exact lq
    ·have h8:L 8=false:=Az Hdep.o 8 4 rfl hL;have h9:L 9=false:=Az Hdep.o 9 8 rfl h8;have h10:L 10=false:=Az Hdep.o 10 9 rfl h9;have h12:L 12=false:=Az Hdep.o 12 10 rfl h10;go_simp;refine(HCP.o ab an W).mono ?_;rintro e w5 ⟨rfl,hb5⟩;exact mJ
    ·have h8:L 8=false:=Az Hdep.o 8 6 rfl (Az Hdep.o 6 5 rfl hL);have hLw:=(HL1.o.after (Ap _ _).drew).after (HR.o.s0 h8);have a0:=(hLw.keep.cell (p:=⟨w.heap.size+2,0,none⟩) (show w.heap.size+2<w.heap.size+5 by omega)).trans EB0.o;have a1:=(hLw.keep.cell (p:=⟨w.heap.size+2,1,none⟩) (show w.heap.size+2<w.heap.size+5 by omega)).trans EB1.o;have a2:=(hLw.keep.cell (p:=⟨w.heap.size+2,2,none⟩) (show w.heap.size+2<w.heap.size+5 by omega)).trans EB2.o;exact lq
    ·have h8:L 8=false:=Az Hdep.o 8 6 rfl hL;have h9:L 9=false:=Az Hdep.o 9 8 rfl h8;have h10:L 10=false:=Az Hdep.o 10 9 rfl h9;have h12:L 12=false:=Az Hdep.o 12 10 rfl h10;go_simp;refine(HCP.o bb bn W).mono ?_;rintro e w5 ⟨rfl,hb5⟩;exact mJ
    ·have h8:L 8=false:=Az Hdep.o 8 7 rfl hL;have z0:=((HR.o.s0 h8).cell (p:=⟨wr.heap.size,0,none⟩) aM).trans ((aB _ _).trans Z0.o);have z1:=((HR.o.s0 h8).cell (p:=⟨wr.heap.size,1,none⟩) aM).trans ((aB _ _).trans Z1.o);have z2:=((HR.o.s0 h8).cell (p:=⟨wr.heap.size,2,none⟩) aM).trans ((aB _ _).trans Z2.o);have z3:=((HR.o.s0 h8).cell (p:=⟨wr.heap.size,3,none⟩) aM).trans ((aB _ _).trans Z3.o);exact lq
    ·have h8:=hL;have h9:L 9=false:=Az Hdep.o 9 8 rfl h8;have h10:L 10=false:=Az Hdep.o 10 9 rfl h9;have h12:L 12=false:=Az Hdep.o 12 10 rfl h10;go_simp;refine(HC.o _ ((Ap W1.heap.size W1).drew.trans ((HR.o.s0 h8).mono aK))).mono ?_;rintro e w5 ⟨sl5,rfl,hs5,hg5,hc5,hf5⟩;obtain⟨A5,c5,rfl⟩:=hs5.form;go_simp;exact hK (Er (KF x).1 (.slice A5 (KF x).1.kids.length c5)) _ _ Ac Ac (Nu.put8 (HR.o.s0 h8) (HL1.o.after (Ap _ _).drew) h9 h10 h12 hs5 hg5 hc5 hf5) eX
    ·have l8:L 8=true:=aN;have h10:L 10=false:=Az Hdep.o 10 9 rfl hL;have h12:L 12=false:=Az Hdep.o 12 10 rfl h10;obtain⟨sl5,u8,⟨A5,n5,c5,e5⟩,hn⟩:=HR.o.put9 l8 hL h10 h12;subst e5;unfold Er at u8;unfold Kt at hn;simp only[u8];go_simp;exact hK _ _ _ Ac Ac hn (by simp[Act.put,hpre,u8])
    ·obtain⟨l1,u1⟩:L 1=true/\U 1=.slice A xs.length c:=by
      exact lZ
     have l9:L 9=true:=bB;have l8:L 8=true:=Pc (Az Hdep.o 9 8 rfl) l9;have h12:L 12=false:=Az Hdep.o 12 10 rfl hL;obtain⟨W8,sl5,hW,u9,hs8,hL8⟩:=HR.o.s2 l9 hL;subst hW;obtain⟨A5,c5,e5⟩:=hs8.form;rw[if_pos cx];refine Fl W8 (.tmp 40) (.tmp 48) 42 rfl (w.heap.size+7) 44 (.agg #[.int .u8 0,a6,.int .i64 0,.slice none 0 0]) 4 56 underlying42 Ys rfl aJ (Kt ((KF x).1,sl5)) rfl (Yy _ (by rw[e5];rfl)) (.slice A xs.length c) xs.length (xs.flatMap Kt) u1 u9 hL8.st.row aU aH hL8.st.bs ?_;intro v6 w6 hown hg hwh;obtain⟨hn,A6,c6,e6⟩:=Nu.put10 (u8:=U 8) (u9:=U 9) hL8 (HL1.o.after (Ap _ _).drew) hs8 l8 l9 h12 hown hg hwh;exact mj
    ·exact ip
    ·have l10:L 10=true:=bB;have l9:L 9=true:=Pc (Az Hdep.o 10 9 rfl) l10;have l8:L 8=true:=Pc (Az Hdep.o 9 8 rfl) l9;obtain⟨sl5,A6,c6,e6,hK6,_⟩:=HR.o.s3 l10 hL;have x3:=hK6.c3;have x4:=hK6.bk.live 3;have x5:=hK6.lt;go_simp;exact hK undef _ _ Ac Ac (HR.o.put12 l8 l9 l10 hL (by rw[e6])) cH
   rintro L U W hL hφ hR;clear hφ;obtain⟨sl6,A6,c6,hL6⟩:=hR.s4 (hL 12 aJ);have HL6:=Aa hL6;clear hR hL hL6;have el:(xs++[((KF x).1,sl6)]).length=xs.length+1:=aK;have hxs9:xs.length<=999:=by
    have h1:=congrArg List.length Hxs.o;simp at h1;omega
   go_wp2_with fail;go_roundw
   case rel=>exact⟨i+1,A6,c6,(l || (KF x).2),xs++[((KF x).1,sl6)],by go_num,by omega,(by show List.map _ _=_;rw[Htk.o,az,az,Hxs.o];rfl),(by show _=_;rw[Htk.o,List.any_append,<-Hl.o];simp),by simp;omega,by rw[el];exact HL6.o⟩
   case measure=>simp[intOf];omega
  ·have i1:¬((i:Int)<(vv.kids.length:Int)):=aH;go_wp2_with fail;refine Jo [52,53,999,9]
    (fun ix v W=>match ix with|0=>v=.agg #[.int .u8 (vv.what.toNat:Int),vv.text,(vv.tag:Int),.slice A xs.length c]|1=>v=.bool l|3=>v=.bool l|_=>True)
    (fun L U W=>(L 2=false->W=wr.drew)/\(L 2=true->W=wr.drew.setCells (w.heap.size+4) 0 [.int .u8 (vv.what.toNat:Int),vv.text,(vv.tag:Int),.slice A xs.length c])) (⟨fun _=>rfl,fun h=>Bool.noConfusion h⟩) ?_ ?_
   ·repeat (first|exact Ak.nil|(refine Ak.cons ?_ ?_;rotate_left))
    all_goals
     rintro L U W hL hpre HR Hdep K hK;first|(simp[Region.binds]at hpre;done)|simp[Region.binds]at hpre|clear hpre
    ·exact iR
    ·have x6:W.cell? (w,6,0)=some (.bool l):=by
      cases e2:L 2 with
      |false=>rw[HR.o.1 e2];exact HL.o.c6
      |true=>
       exact mD
     exact lq
    ·have hW:=HR.o.1 hL;subst hW;have u0:U 0=.agg #[.int .u8 (vv.what.toNat:Int),vv.text,(vv.tag:Int),.slice A xs.length c]:=cN;rw[if_pos cx];refine wp_store_mid 44 _ _ rfl (w.heap.size+4) 0 ([.int .u8 (vv.what.toNat:Int),vv.text,(vv.tag:Int),.slice A xs.length c]:List Value).toArray rfl u0 (Aj T7.o (show w.heap.size+4<w.heap.size+5 by omega) HL.o.keep.drew) aL bh ?_;exact mE
    ·exact ip
   rintro L U W hL hφ hR;have hW:=hR.2 (hL 2 aJ);have u3:U 3=.bool l:=hφ 3 aJ;simp only[u3];have HT:=Aa (Aj T7.o (show w.heap.size+4<w.heap.size+5 by omega) (HL.o.keep.drew));clear hR hL hφ u3;subst hW;go_wp2_with fail;refine aF (v:=.tuple #[.agg ([.int .u8 (vv.what.toNat:Int),vv.text,(vv.tag:Int),.slice A xs.length c]:List Value).toArray,.bool l]) ?_ rfl ?_
   ·exact Am results31 _ _ (w.heap.size+4) [.int .u8 (vv.what.toNat:Int),vv.text,(vv.tag:Int),.slice A xs.length c] _ _ rfl rfl (aa _ _ _ _ HT.o) underlying44 rfl aL
   have hiK:=HL.o.st.done hxl;rw[show Bi xs=vv.kids.map fun x=>(KF x).1 from by have:=Hxs.o;rw[au aH]at this;exact this]at hiK;have hkl9:xs.length=(vv.kids.map fun x=>(KF x).1).length:=by
    have h1:=congrArg List.length Hxs.o;rw[au aH]at h1;simpa using h1
   refine⟨.slice A xs.length c,by rw[Hl.o,au aH];rfl,?_,?_⟩
   ·have h2:=(hiK.after (Ap _ _).drew).grown (Bx (w.heap.size+4) [.int .u8 (vv.what.toNat:Int),vv.text,(vv.tag:Int),.slice A xs.length c] 0 _) (fun c hc e=>by injection e with e;omega);exact h2.mono fun c hc _=>aH
   exact Ai _ aH _ _ _ HL.o.bel.drew
theorem Qgt(S:List Ty)(K:Kd->Vl->Vl × Bool)(fs:List Fd)(y:Vl):(Mi S K fs y).1.length<=1:=by
 unfold Mi
 cases Av fs y.tag with
 |none=>simp
 |some f=>simp only;split<;>simp
theorem Qaz{α β:Type}(g:α->List β)(hg:∀x,(g x).length<=1):∀l:List α,(l.flatMap g).length<=l.length
 |[]=>by simp
 |x::l=>by have:=Qaz g hg l;have:=hg x;simp only[List.flatMap_cons,List.length_append,List.length_cons];omega
theorem Qkz(k:Kd)(c:UInt8)(r:List UInt8)(h:k.signs=c::r):k=⟨c::k.part.signs,k.part.base,k.part.name⟩:=by
 obtain⟨s,b,n⟩:=k
 simp only at h
 subst h
 rfl
theorem Qcm{k:Kd}(h:Cq k):k.signs.length<=12/\(k.base=[64]->k.name.length<=12):=by
 have h3:=h.2.2
 unfold Be B6 at h3
 simp only[List.length_append]at h3
 refine⟨by omega,fun e=>?_⟩
 rw[if_pos e]at h3
 simp at h3
 omega
theorem Qjy{S T:List Ty}{R:Cw->Cw->Prop}(hR:Y6 S T R)(hT:Gy T)(hok:Gy S)(xs ys:List PT)(hxs:Ag xs=S)(hys:Ag ys=T)(eb:Nat)(p1 p2:Value):∀(d:Nat) (a b:Kd) (v:Vl),Qz R a b->Jf T d b v->Cq a->Cq b->(Bc v).length<=900000 ->
  ∀(P:Nat->Prop) (A:Option Addr) (n c:Nat) (w:World),EvW w eb p1 p2 xs ys->Eh P w (.slice A n c) v.kids ->
  Calls prog 31 #[.pointer (some ⟨eb,0,none⟩),Et a,Et b,Er v (.slice A n c)] w (Na (Dj S d a v) w):=by
 intro d
 induction d with
 |zero=>intro a b v _ h;cases h
 |succ d ih=>
  intro a b v hk hv ha hb' hl P A n c w hev hiv
  obtain⟨k1,k2,k3⟩:=hk
  have hn:n=v.kids.length:=by
   obtain⟨A',c',e⟩:=hiv.form
   injection e
  subst hn
  have named:a.signs=[]->a.base=[64]->∀u,Bt T b.name=some u->∃x y pb1 mb1 pb2 mb2,Bt S a.name=some x.ty/\y.ty=u/\x.ty.sort=u.sort/\(∀g∈u.fields,P6 S T R x.ty u.sort g)/\So w x/\So w y/\x.ty∈S/\p1=.pointer (some ⟨pb1,0,none⟩)/\LkT w eb a.name b.name x.blk y.blk pb1 mb1 pb2 mb2:=by
   intro hs hb u hu
   obtain⟨t,u',htS,htT,hsu,hfr⟩:=hR _ _ (k3 hb)
   rw[hu]at htT
   injection htT with htT
   subst htT
   have hx:∃x,Fh xs a.name=some x/\x.ty=t:=by
    rw[<-hxs,Jp]at htS
    cases hx:Fh xs a.name with
    |none=>rw[hx]at htS;cases htS
    |some y=>rw[hx]at htS;injection htS with htS;exact⟨y,rfl,htS⟩
   have hy:∃y,Fh ys b.name=some y/\y.ty=u:=by
    rw[<-hys,Jp]at hu
    cases hy:Fh ys b.name with
    |none=>rw[hy]at hu;cases hu
    |some y=>rw[hy]at hu;injection hu with hu;exact⟨y,rfl,hu⟩
   obtain⟨x,hx,rfl⟩:=hx
   obtain⟨y,hy,rfl⟩:=hy
   obtain⟨pb1,mb1,pb2,mb2,e1,e2,hlk⟩:=Qnt hev hx hy (by have:=(Qcm ha).2 hb;omega) (by have:=(Qcm hb').2 (k2 ▸ hb);omega)
   have hi1:So w x:=by obtain⟨_,_,_,_,_,_,_,_,_,_,hq,_⟩:=hev.s1;exact hq x (Gp hx).1
   have hi2:So w y:=by obtain⟨_,_,_,_,_,_,_,_,_,_,hq,_⟩:=hev.s2;exact hq y (Gp hy).1
   exact⟨x,y,pb1,mb1,pb2,mb2,htS,rfl,hsu,hfr,hi1,hi2,(Cp htS).1,e1,hlk⟩
  have lst:∀c0 r,a.signs=c0::r->(∀x∈v.kids,Jf T d b.part x/\(Bc x).length<=900000)->Calls prog 31 #[.pointer (some ⟨eb,0,none⟩),Et a,Et b,Er v (.slice A v.kids.length c)] w (Na (Dj S (d+1) a v) w):=by
   intro c0 r hs hkv
   have ea:=Qkz a c0 r hs
   have eb':=Qkz b c0 r (k1 ▸ hs)
   have hps:b.part.signs=a.part.signs:=by show b.signs.tail=a.signs.tail;rw[k1]
   have h:=Qib P w eb c0 a.part.signs a.part.base a.part.name b.part.base b.part.name (by have:=(Qcm (Kc ha).1).1;omega) v A c hiv (Dj S d a.part) (fun x hx W A' n' c' hW hs2=>by
    have:=ih a.part b.part x (Mb ⟨k1,k2,k3⟩) (hkv x hx).1 (Kc ha).1 (Kc hb').1 (hkv x hx).2 P A' n' c' W (hev.after hW) hs2
    rw[<-hps]
    rw[show Et ⟨b.part.signs,a.part.base,a.part.name⟩=Et a.part from by rw[hps]]
    exact this)
   rw[<-ea,<-hps,<-eb']at h
   obtain⟨w0,tx,tg,ks⟩:=v
   rw[C7,if_pos (by rw[hs];simp)]
   exact h
  cases hv with
  |@n _ _ m hs hb h=>
   rw[C7,if_neg (by rw[k1,hs];simp),if_pos (by rw[k2,hb];decide)]
   exact Qa0 w eb a b (k1.trans hs) (by rw[k2,hb];decide) _ rfl A c
  |@t _ _ s hs hb h=>
   rw[C7,if_neg (by rw[k1,hs];simp),if_pos (by rw[k2,hb];decide)]
   exact Qa0 w eb a b (k1.trans hs) (by rw[k2,hb];decide) _ rfl A c
  |@f _ _ x hs hb=>
   generalize (if x then Fa else Nq)=tx at *
   rw[C7,if_neg (by rw[k1,hs];simp),if_pos (by rw[k2,hb];decide)]
   exact Qa0 w eb a b (k1.trans hs) (by rw[k2,hb];decide) _ rfl A c
  |@lst _ _ r ks hs hl2 h=>
   refine lst 91 r (k1.trans hs) fun x hx=>⟨h x hx,?_⟩
   rw[Jt]at hl
   simp only[List.length_cons,List.length_append,Bz,List.length_nil]at hl
   have:=Po (List.mem_map_of_mem (f:=Bc) (show x∈ks from hx))
   omega
  |@non _ _ r hs=>exact lst 63 r (k1.trans hs) fun x hx=>absurd hx (by simp[Vl.kids])
  |@som _ _ r x hs h=>
   refine lst 63 r (k1.trans hs) fun y hy=>?_
   rw[show y=x from by simpa [Vl.kids]using hy]
   exact⟨h,by simp[Bc,Ed,Jg,Aw]at hl;omega⟩
  |@enm _ _ u g hs hb ht h9 hf=>
   obtain⟨x,y,pb1,mb1,pb2,mb2,htS,_,_,_,_,_,_,_,hlk⟩:=named (k1.trans hs) (k2.trans hb) u ht
   rw[C7,if_neg (by rw[k1,hs];simp),if_neg (by rw[k2,hb];simp),htS]
   simp only
   rw[if_neg (show ¬(69:UInt8)=85 by decide),if_neg (show ¬(69:UInt8)=82 by decide)]
   exact Ql4 w eb a b (k1.trans hs) (k2.trans hb) (.mk 69 [] g.tag []) (show (69:UInt8)≠85 by decide) (show (69:UInt8)≠82 by decide) rfl A c _ _ _ _ _ _ hlk
  |@uni _ _ u g x hs hb ht h5 hf h=>
   obtain⟨xp,yp,pb1,mb1,pb2,mb2,htS,hyu,hsu,hfr,hi1,hi2,htm,_,hlk⟩:=named (k1.trans hs) (k2.trans hb) u ht
   subst hyu
   rw[C7,if_neg (by rw[k1,hs];simp),if_neg (by rw[k2,hb];simp),htS]
   simp only
   rw[if_pos Ac]
   have hrel:=hfr g (Ax hf).2
   unfold P6 at hrel
   have etag:g.tag<=200:=(Nl hT.1.1 ht (by rw[h5];decide) (Ax hf).2).2
   cases hft:Av xp.ty.fields g.tag with
   |none=>rw[hft]at hrel;simp only at hrel;rw[h5]at hrel;exact absurd hrel (by decide)
   |some f=>
    rw[hft]at hrel
    simp only at hrel
    rw[h5]at hrel
    have hkr:Qz R f.kind g.kind:=by rcases hrel with h|h;exact absurd h (by decide);exact h.1
    have hkf:=(Nl hok.1.1 htS (by rw[hsu,h5];decide) (Ax hft).2).1
    have hkg:=(Nl hT.1.1 ht (by rw[h5];decide) (Ax hf).2).1
    have hres:=Qlu P w eb a b (k1.trans hs) (k2.trans hb) (.mk 85 [] g.tag [x]) x rfl rfl A c hiv xp yp pb1 mb1 pb2 mb2 hlk hi1 hi2 f g (by show g.tag<=_;omega) hft hf (Dj S d f.kind x) (fun W A' n' c' hW hs2=>ih f.kind g.kind x hkr h hkf hkg (by simp[Bc,Ed,Jg,Aw]at hl;omega) P A' n' c' W (hev.after hW) hs2)
    simp only[List.map_cons,List.map_nil,List.any_cons,List.any_nil,Bool.or_false]
    exact hres
  |@rcd _ _ u ps hs hb ht h2 hf h hn hp=>
   obtain⟨xp,yp,pb1,mb1,pb2,mb2,htS,hyu,hsu,hfr,hi1,hi2,htm,hp1,hlk⟩:=named (k1.trans hs) (k2.trans hb) u ht
   subst hyu
   rw[C7,if_neg (by rw[k1,hs];simp),if_neg (by rw[k2,hb];simp),htS]
   simp only
   rw[if_neg (by decide),if_pos Ac]
   have hst:xp.ty.sort≠69:=by rw[hsu,h2];decide
   have hres:=Qlj P w eb a b (k1.trans hs) (k2.trans hb) (.mk 82 [] 0 (ps.map Dr)) rfl (ps.map fun p=>(p.1.tag,p.2)) (by simp[Vl.kids,fdV,Dr,Function.comp_def]) A c hiv xp yp pb1 mb1 pb2 mb2 hlk hi1 hi2
    (ps.map fun p=>Mi S (Dj S d) xp.ty.fields (Dr p)) (by simp) (fun i hi hj=>by
     have hi2:i<ps.length:=by simpa using hi
     have hm:=List.getElem_mem hi2
     rw[List.getElem_map,List.getElem_map]
     generalize hpi:ps[i]=p at *
     have hl9:(Bc p.2).length<=900000:=by
      rw[Mu]at hl
      simp only[List.length_cons,List.length_append,Bz,List.length_nil]at hl
      have h3:=Po (List.mem_map_of_mem (f:=fun p=>Bc (Dr p)) hm)
      simp only[Jv]at h3
      omega
     have hrel:=hfr p.1 (Ax (hf p hm)).2
     have htg:=(Nl hT.1.1 ht (by rw[h2];decide) (Ax (hf p hm)).2).2
     unfold P6 at hrel
     refine⟨by show p.1.tag<=_;omega,?_⟩
     have e1:Mi S (Dj S d) xp.ty.fields (Dr p)=match Av xp.ty.fields p.1.tag with|none=>([],true)|some f=>if Bc (Dj S d f.kind p.2).1=J4 S f then([],true)else([.mk 61 [] p.1.tag [(Dj S d f.kind p.2).1]],(Dj S d f.kind p.2).2):=rfl
     rw[e1]
     cases hft:Av xp.ty.fields p.1.tag with
     |none=>exact .inl ⟨rfl,rfl⟩
     |some f=>
      rw[hft]at hrel
      simp only at hrel
      rw[h2]at hrel
      have hkr:Qz R f.kind p.1.kind:=by rcases hrel with h|h;exact absurd h (by decide);exact h.1
      have hkf:=(Nl hok.1.1 htS hst (Ax hft).2).1
      have hkg:=(Nl hT.1.1 ht (by rw[h2];decide) (Ax (hf p hm)).2).1
      obtain⟨hok2,hlok⟩:=Sk hR d f.kind p.1.kind p.2 hkr (h p hm)
      have hB:=Qbp hok.1.1 d f.kind _ hok2 (Nat.le_trans hlok.le hl9)
      refine .inr ⟨f,p.1,Dj S d f.kind p.2,Bc (Dj S d f.kind p.2).1,J4 S f,rfl,hf p hm,fun W A' n' c' hW hs2=>ih f.kind p.1.kind p.2 hkr (h p hm) hkf hkg hl9 P A' n' c' W (hev.after hW) hs2,fun Q W sl hs2=>Td Q hB sl W hs2,fun W b' o' hW hb' hrg=>?_,?_⟩
      ·have hsc:=hev.s1.below hW
       rw[hp1]at hsc
       have:=Yu _ xs (by rw[hxs];exact hok) f b' o' W hsc (Ah hrg hb' hW) hkf (by rw[hxs];exact hok.2.1 _ htm hst f (Ax hft).2) (Nat.le_trans (Jm ((hok.1.1 _ htm).2.2.1.1 f (Ax hft).2)) (by decide))
       rw[hxs]at this
       exact this
      simp only
      by_cases hq:Bc (Dj S d f.kind p.2).1=J4 S f
      ·exact .inl ⟨hq,if_pos hq⟩
      exact .inr ⟨hq,if_neg hq⟩) (fun k hk=>by
     have h1:((((ps.map fun p=>Mi S (Dj S d) xp.ty.fields (Dr p)).take k).flatMap (·.1))).length<=((ps.map fun p=>Mi S (Dj S d) xp.ty.fields (Dr p)).take k).length:=by
      rw[<-List.map_take,List.flatMap_map,List.length_map]
      exact Qaz _ (fun p=>Qgt _ _ _ _) _
     rw[List.length_take]at h1
     omega)
   have e2:((ps.map fun p=>Mi S (Dj S d) xp.ty.fields (Dr p)).flatMap (·.1))=(ps.map Dr).flatMap fun y=>(Mi S (Dj S d) xp.ty.fields y).1:=by simp[List.flatMap_map]
   have e3:((ps.map fun p=>Mi S (Dj S d) xp.ty.fields (Dr p)).any (·.2))=(ps.map Dr).any fun y=>(Mi S (Dj S d) xp.ty.fields y).2:=by simp[List.any_map,Function.comp_def]
   rw[e2,e3]at hres
   exact hres
section
variable {P:Program}
theorem J9{fn:Func}{p q r:Tmp}{ty:TypeId}(h:fn.results=#[.cell p ty,.tmp q,.tmp r])(tmps:Array Value)(w:World)(b:Nat)(cs:List Value)(d:TypeDesc)(x y:Value)
  (hp:tmps.getD p undef=b) (hq:tmps.getD q undef=x) (hr:tmps.getD r undef=y) (hc:w.rangeAt b 0 cs) (hu:P.underlying ty=some d) (hd:d.isRow=true) (hi:(P.info? ty).map (·.size)=some cs.length):
  (results fn tmps).run P w=.ok (.tuple #[.agg cs.toArray,x,y]) w:=by
 have hp':tmps[p]?.getD undef=b:=eD;have hq':tmps[q]?.getD undef=x:=fk;have hr':tmps[r]?.getD undef=y:=dJ;simp[results,h,hp',hq',hr',asAddr,run_loadVar_mid w b 0 ty cs d hc hu hd hi]
end
def Zl(o:Option (Vl × Bool))(w:World)(e:Ending)(w':World):Prop:=
 (∃v sl l,e=.returned (.tuple #[Er v sl,.bool l,.bool o.isSome])/\Eh (fun c=>w.heap.size<=c) w' sl v.kids/\∀r,o=some r->v=r.1/\l=r.2)/\Below w w w'
theorem Zl.no{o:Option (Vl × Bool)}{w w':World}{e:Ending}(ho:o=none)(he:e=.returned (.tuple #[Er Fm (.slice none 0 0),.bool false,.bool false]))(hb:Below w w w'):Zl o w e w':=by
 subst ho;exact⟨⟨Fm,_,false,he,Eh.nil _ _,by simp⟩,hb⟩
structure Mh(w1:World)(o:Option Vl)(l m x z al st q:Bool)(ul um ux uz ual uq:Value)(W:World):Prop where
 be:Below w1 w1 W
 yes:l=true->∃v A c,(∀y,o=some y->v=y)/\Eh (fun c=>w1.heap.size<=c/\(al=true->ual≠.pointer (some ⟨c,0,none⟩))) W (.slice A v.kids.length c) v.kids/\ul=.tuple #[Er v (.slice A v.kids.length c),.bool o.isSome] /\
  (m=true->um=.tuple #[Er v (.slice A v.kids.length c),.bool o.isSome])/\(x=true->ux=Er v (.slice A v.kids.length c))/\(z=true->uz=.bool o.isSome)/\(q=true->uq=.bool o.isSome)
 al:al=true->∃B,ual=.pointer (some ⟨B,0,none⟩)/\w1.heap.size<=B/\B<W.heap.size/\W.there B 0 4/\(st=true->∃v A c,ux=Er v (.slice A v.kids.length c)/\W.rangeAt B 0 (Kt (v,.slice A v.kids.length c)))
section
variable {w1 W W':World} {o:Option Vl} {l m x z al st q:Bool} {ul um ux uz ual uq:Value} {v:Vl} {A:Option Addr} {c B:Nat}
theorem Mh.start:Mh w1 o false m x z false st q ul um ux uz ual uq w1:=⟨Ap _ _,fun h=>Bool.noConfusion h,fun h=>Bool.noConfusion h⟩
theorem Mh.call(h:Mh w1 o l m x z al st q ul um ux uz ual uq W)(hm:m=false)(hx:x=false)(hz:z=false)(hst:st=false)(hq:q=false)(ho:∀y,o=some y->v=y)(hs:Eh (fun c=>W.heap.size<=c) W' (.slice A v.kids.length c) v.kids)(hb:Below W W W'):
  Mh w1 o true m x z al st q (.tuple #[Er v (.slice A v.kids.length c),.bool o.isSome]) um ux uz ual uq W':=by
 subst hm hx hz hst hq;refine⟨h.be.trans (hb.mono h.be.size),fun _=>⟨v,A,c,ho,hs.mono fun k hk hl=>⟨ad h.be.size hk,fun ha e=>?_⟩,rfl,fun h=>Bool.noConfusion h,fun h=>Bool.noConfusion h,fun h=>Bool.noConfusion h,fun h=>Bool.noConfusion h⟩,fun ha=>?_⟩
 ·obtain⟨B,h1,h2,h3,_⟩:=h.al ha;rw[h1]at e;injection e with e;injection e with e;injection e with e;have:W.heap.size<=k:=hk;omega
 exact mg
theorem Mh.move(h:Mh w1 o l m x z al st q ul um ux uz ual uq W)(hl:l=true):Mh w1 o l true x z al st q ul ul ux uz ual uq W:=
 ⟨h.be,fun hl=>by obtain⟨v,A,c,h1,h2,h3,_,h4⟩:=h.yes hl;exact⟨v,A,c,h1,h2,h3,fun _=>h3,h4⟩,h.al⟩
theorem Mh.get(h:Mh w1 o l m x z al st q ul um ux uz ual uq W)(hl:l=true)(hm:m=true)(hst:x=false->st=false):∃v A c,um=.tuple #[Er v (.slice A v.kids.length c),.bool o.isSome] /\
  (x=false->Mh w1 o l m true z al st q ul um (Er v (.slice A v.kids.length c)) uz ual uq W)/\Mh w1 o l m x true al st q ul um ux (.bool o.isSome) ual uq W:=by
 obtain⟨v,A,c,h1,h2,h3,h4,h5,h6,h7⟩:=h.yes hl;refine⟨v,A,c,h4 hm,fun hx=>⟨h.be,fun _=>⟨v,A,c,h1,h2,h3,h4,fun _=>rfl,h6,h7⟩,fun ha=>?_⟩,⟨h.be,fun _=>⟨v,A,c,h1,h2,h3,h4,h5,fun _=>rfl,h7⟩,h.al⟩⟩;exact mh
theorem Mh.as(h:Mh w1 o l m x z al st q ul um ux uz ual uq W)(hz:z=true):Mh w1 o l m x z al st true ul um ux uz ual uz W:=
 ⟨h.be,fun hl=>by obtain⟨v,A,c,h1,h2,h3,h4,h5,h6,_⟩:=h.yes hl;exact⟨v,A,c,h1,h2,h3,h4,h5,h6,fun _=>h6 hz⟩,h.al⟩
theorem Mh.alloc(h:Mh w1 o l m x z al st q ul um ux uz ual uq W)(hst:st=false)(T:TypeId):Mh w1 o l m x z true st q ul um ux uz W.heap.size uq (W.alloc (.cells #[.int .u8 0,a6,.int .i64 0,.slice none 0 0] T)):=by
 have hb:=(Ap W.heap.size W).alloc (An _) (.cells #[.int .u8 0,a6,.int .i64 0,.slice none 0 0] T);refine⟨h.be.alloc h.be.size _,fun hl=>?_,fun _=>⟨_,rfl,h.be.size,by simp,Bu W [.int .u8 0,a6,.int .i64 0,.slice none 0 0] T,fun h=>absurd (hst.symm.trans h) aJ⟩⟩;obtain⟨v,A,c,h1,h2,h3⟩:=h.yes hl;exact⟨v,A,c,h1,(h2.mono (Q:=fun c=>w1.heap.size<=c/\(true=true->(Value.pointer (W,0))≠c)) fun k hk hl=>⟨hk.1,fun _ e=>by injection e with e;injection e with e;injection e with e;omega⟩).after hb,h3⟩
theorem Mh.store(h:Mh w1 o l m x z al st q ul um ux uz ual uq W)(hl:l=true)(hx:x=true)(ha:al=true):
  ∃v A c B,ux=Er v (.slice A v.kids.length c)/\ual=.pointer (some ⟨B,0,none⟩)/\W.there B 0 4/\Mh w1 o l m x z al true q ul um ux uz ual uq (W.setCells B 0 (Kt (v,.slice A v.kids.length c))):=by
 obtain⟨v,A,c,h1,h2,h3,h4,h5,h6⟩:=h.yes hl;obtain⟨B,g1,g2,g3,g4,_⟩:=h.al ha;refine⟨v,A,c,B,h5 hx,g1,g4,Ai _ g2 _ _ _ h.be,fun _=>⟨v,A,c,h1,h2.set (fun hP=>hP.2 ha g1) _,h3,h4,h5,h6⟩,fun _=>⟨B,g1,g2,by rw[Ce];exact g3,ai g4 _ _ _,fun _=>⟨v,A,c,h5 hx,aa _ _ _ _ g4⟩⟩⟩
theorem Mh.fin(h:Mh w1 o l m x z al st q ul um ux uz ual uq W)(hl:l=true)(hx:x=true)(ha:al=true)(hs:st=true)(hq:q=true):
  ∃v A c B,(∀y,o=some y->v=y)/\ual=.pointer (some ⟨B,0,none⟩)/\uq=.bool o.isSome/\w1.heap.size<=B/\B<W.heap.size/\W.rangeAt B 0 (Kt (v,.slice A v.kids.length c))/\Eh (fun c=>w1.heap.size<=c) W (.slice A v.kids.length c) v.kids/\Below w1 w1 W:=by
 obtain⟨v,A,c,h1,h2,h3,h4,h5,h6,h7⟩:=h.yes hl;obtain⟨B,g1,g2,g3,g4,g5⟩:=h.al ha;obtain⟨v',A',c',e1,e2⟩:=g5 hs;have e3:=h5 hx;rw[e1]at e3;unfold Er at e3;injection e3 with e3;simp at e3;refine⟨v,A,c,B,h1,g1,h7 hq,g2,g3,?_,h2.mono fun k hk _=>hk.1,h.be⟩;unfold Kt at e2 ⊢;simp only at e2 ⊢;obtain⟨i1,i2,i3,i4,i5,i6⟩:=e3;rw[i1,i2,i3,i4,i5,i6]at e2;exact e2
end
theorem Qb3{S T:List Ty}{a b:Kd}{x:List UInt8}{v:Vl}(hS:Gy S)(hT:Gy T)(hb:Cq b)(he:H8 S T a b=true)(hv:Gd T b x=some v):∃R,Y6 S T R/\Qz R a b/\Jf T 12 b v/\Bc v=x/\x.length<=400/\Bd (Dj S 12 a v).1/\LOk v (Dj S 12 a v):=by
 obtain⟨R,hR,hK⟩:=Mt hS.1.2.1 hT.1.2.1 he;obtain⟨h1,h2,h3⟩:=(Eb hT.1.1 hb).1 hv;obtain⟨h4,h5⟩:=Sk hR 12 a b v hK h1;exact⟨R,hR,hK,h1,h2,h3,Qbp hS.1.1 12 a _ h4 (ad h5.le (by rw[h2];omega)),h5⟩
theorem Qfw(s1 d1 s2 d2 x:List UInt8)(w:World)(h1:s1.length<=4000000)(h2:d1.length<=4000000)(h3:s2.length<=4000000)(h4:d2.length<=4000000)(h5:x.length<=4000000):
  Calls prog 17 #[s1,d1,s2,d2,x] w (Zl (Fz (At s1 d1) (At s2 d2) x) w):=by
 have H1:=Aa (fun W=>Vo s1 d1 s2 d2 W h1 h2 h3 h4);have G1:=Aa (fun S k (h:At s1 d1=some (S,k))=>Cs h);have G2:=Aa (fun S k (h:At s2 d2=some (S,k))=>Cs h);generalize At s1 d1=o1 at *;generalize At s2 d2=o2 at *;go_enter func17,ntmps17;go_wp2_with fail;obtain⟨W1,hW1⟩:∃W1,W1=w.alloc (.cells #[.int .u8 0,a6,.int .i64 0,.slice none 0 0] 44):=⟨_,rfl⟩
 rw[<-hW1];have hz1:W1.heap.size=w.heap.size+1:=cm;have B1:=Aa (show Below w w W1 by rw[hW1];exact(Ap _ _).alloc (An _) _);have T1:=Aa (show W1.there w 0 4 by rw[hW1];exact Bu w [.int .u8 0,a6,.int .i64 0,.slice none 0 0] 44);clear hW1;refine(H1.o W1).mono ?_;rintro e W2 ⟨q,a1,b1,c1,a2,b2,c2,rfl,hb2,hev⟩;have Hev:=Aa hev;have hz2:=hb2.size;have B2:=Aa (B1.o.trans (hb2.mono aH));have T2:=Aa (Aj T1.o aH hb2);have Hb2:=Aa hb2;obtain⟨W3,hW3⟩:∃W3,W3=(W2.alloc (.cells #[.string a1,.string b1,.string c1] 50)).alloc (.cells #[.string a2,.string b2,.string c2] 50):=⟨_,rfl⟩
 have hb3:Below W2 W2 W3:=by rw[hW3];exact((Ap _ _).alloc (An _) _).alloc aK _
 have B3:=Aa (B2.o.trans (hb3.mono B2.o.size));have T3:=Aa (Aj T2.o aH hb3);have HW3:=Aa hW3;clear hev hb2 hW3;cases he:Ef o1 o2 with
 |false=>
  have HN:=Aa (Qfp (x:=x) he);clear he;go_wp2_with ((with_reducible refine Ad (op:=⟨none,.store 44 _ _,_,_,_,none⟩) rfl 44 _ _ rfl w 0 [.int .u8 0,a6,.int .i64 0,.slice none 0 0] ?_ ?_ ?_ ?_ ?_ ?_);rfl;rfl;(rw[<-HW3.o];exact T3.o);kernel_rfl;(simp[Value.oneCell']);intro w9 HS9)
  have HZ:=(by rw[HS9.o,<-HW3.o];exact aa _ _ _ _ T3.o:w9.rangeAt w 0 (J8 Fm (.slice none 0 0)))
  refine aF (v:=.tuple #[.agg (J8 Fm (.slice none 0 0)).toArray,.bool false,.bool false]) (J9 results17 _ _ w.heap.size _ _ _ _ rfl rfl rfl HZ underlying44 rfl aL) rfl ?_;exact Zl.no HN.o rfl (by rw[HS9.o,<-HW3.o];exact Ai _ aH _ _ _ B3.o)
 |true=>
  obtain⟨S,T,a,b,xs,ys,eb,p1,p2,rfl,rfl,hxs,hys,rfl,rfl,rfl,rfl,rfl,rfl,rfl,e1,e2,e3,e4,e5,e6⟩:=Hev.o he;obtain⟨g1,_,_,ga,_,gra⟩:=G1.o S a rfl;obtain⟨g2,_,_,gb,_,grb⟩:=G2.o T b rfl;have Hev9:=@Aa (EvW W3 eb (.pointer p1) (.pointer p2) xs ys) (EvW.after ⟨e2,e3,e4,e5.isc,e6.isc⟩ hb3);have He:=@Aa (H8 S T a b=true) he;have HS:=Aa g1;have HT:=Aa g2;have Hrd:=Aa (fun W (h:Tr W (.pointer p2) ys)=>Qbj (.pointer p2) ys (by rw[hys];exact g2) b gb (by rw[hys];exact grb) x W h h5);rw[hys]at Hrd;obtain⟨o,ho⟩:∃o,Gd T b x=o:=⟨_,rfl⟩
  rw[ho]at Hrd;have Ho:=Aa ho;have Hga:=Aa ga;have Hgb:=Aa gb;have Hxs:=Aa hxs;have Hys:=Aa hys
  have Hlift:=Aa (show Fz (some (S,a)) (some (T,b)) x=o.map (Dj S 12 a)from by
   show (if H8 S T a b=true then(Gd T b x).map (Dj S 12 a)else none)=_;rw[if_pos He.o,ho])
  have x0:W3.cell? (W2,0)=a.signs:=dL;have x1:W3.cell? (W2,1)=a.base:=dL;have x2:W3.cell? (W2,2)=a.name:=dL;have x3:W3.cell? (W2,1,0)=b.signs:=dL;have x4:W3.cell? (W2,1,1)=b.base:=dL;have x5:W3.cell? (W2,1,2)=b.name:=dL;have X0:=Aa x0;have X1:=Aa x1;have X2:=Aa x2;have X3:=Aa x3;have X4:=Aa x4;have X5:=Aa x5;have hz3:W3.heap.size=W2.heap.size+2:=by rw[HW3.o];simp
  clear he g1 g2 ga gb gra grb ho hxs hys e3 e4 e5 e6 x0 x1 x2 x3 x4 x5 hb3 Hev G1 G2 Hb2 B1 T1;unfold Et at Hrd;go_upto_region 4 with fail
  rw[<-HW3.o];have Hy2:=Aa Hev9.o.s2;refine Jo [34,35,36,37,38,39,40,33,41,42,17,999,16]
   (fun ix v W=>match ix with|0=>v=eb|1=>v=eb|2=>v=(eb,1)|3=>v=.pointer p2|4=>v=.agg #[b.signs,b.base,b.name]|5=>v=x|_=>True)
   (fun L U W=>Mh W3.drew o (L 6) (L 7) (L 8) (L 9) (L 10) (L 11) (L 12) (U 6) (U 7) (U 8) (U 9) (U 10) (U 12) W) (Mh.start) ?_ ?_
  ·repeat (first|exact Ak.nil|(refine Ak.cons ?_ ?_;rotate_left))
   all_goals
    rintro L U W hL hpre HR Hdep K hK;have hb4:Below W3 W3 W:=(Ap _ _).drew.trans HR.o.be;first|(simp[Region.binds]at hpre;done)|simp[Region.binds]at hpre|clear hpre
   iterate 3
    ·exact ip
   ·have e4:=(hb4.cell (p:=⟨eb,1,none⟩) Hev9.o.lt).trans Hev9.o.c1;exact lq
   ·have y0:=(hb4.cell (p:=⟨W2.heap.size+1,0,none⟩) (show W2.heap.size+1<W3.heap.size by omega)).trans X3.o;have y1:=(hb4.cell (p:=⟨W2.heap.size+1,1,none⟩) (show W2.heap.size+1<W3.heap.size by omega)).trans X4.o;have y2:=(hb4.cell (p:=⟨W2.heap.size+1,2,none⟩) (show W2.heap.size+1<W3.heap.size by omega)).trans X5.o;exact lq
   ·exact ip
   ·have h7:L 7=false:=Az Hdep.o 7 6 rfl hL;have h8:L 8=false:=Az Hdep.o 8 7 rfl h7;have h9:L 9=false:=Az Hdep.o 9 7 rfl h7;have h11:L 11=false:=Az Hdep.o 11 8 rfl h8;have h12:L 12=false:=Az Hdep.o 12 9 rfl h9;go_simp;refine(Hrd.o _ (Hy2.o.below hb4)).mono ?_;rintro e w5 ⟨⟨v,sl5,rfl,hs5,hx5⟩,hb5⟩;obtain⟨A5,c5,rfl⟩:=hs5.form;go_simp;exact hK (.tuple #[Er v (.slice A5 v.kids.length c5),.bool o.isSome]) _ _ Ac Ac (HR.o.call h7 h8 h9 h11 h12 hx5 hs5 hb5) eX
   ·have l6:L 6=true:=aN;go_simp;exact hK _ _ _ Ac Ac (HR.o.move l6) aI
   ·have l7:L 7=true:=aN;have l6:L 6=true:=Pc (Az Hdep.o 7 6 rfl) l7;have h11:L 11=false:=Az Hdep.o 11 8 rfl hL;obtain⟨v,A5,c5,um,g0,g1⟩:=HR.o.get l6 l7 (fun _=>h11);simp only[um];go_simp;exact hK _ _ _ Ac Ac (g0 hL) (by simp[Act.put,hpre,um,Er])
   ·have l7:L 7=true:=aN;have l6:L 6=true:=Pc (Az Hdep.o 7 6 rfl) l7;obtain⟨v,A5,c5,um,g0,g1⟩:=HR.o.get l6 l7 (fun h=>by cases e:L 11 with|false=>rfl|true=>exact absurd ((Az Hdep.o 11 8 rfl h).symm.trans e) aJ);simp only[um];go_simp;exact hK _ _ _ Ac Ac g1 (by simp[Act.put,hpre,um])
   ·have h11:L 11=false:=Az Hdep.o 11 10 rfl hL;go_simp;exact hK _ _ _ Ac Ac (HR.o.alloc h11 _) rfl
   ·have l8:L 8=true:=en;have l10:L 10=true:=eo;have l7:L 7=true:=Pc (Az Hdep.o 8 7 rfl) l8;have l6:L 6=true:=Pc (Az Hdep.o 7 6 rfl) l7;obtain⟨v,A5,c5,B,u8,u10,ht,hn⟩:=HR.o.store l6 l8 l10;unfold Er at u8;unfold Kt at hn;rw[if_pos cx];refine wp_store_mid 44 _ _ rfl B 0 ([.int .u8 (v.what.toNat:Int),v.text,(v.tag:Int),.slice A5 v.kids.length c5]:List Value).toArray u10 u8 ht aL bh ?_;exact mq
   ·have l9:L 9=true:=aN;go_simp;exact hK (U 9) _ _ Ac Ac (HR.o.as l9) aI
  rintro L U W hL hφ hR;clear hφ;obtain⟨v,A,c,B,hov,u10,u12,hB1,hB2,hrg,hiv,hbe⟩:=hR.fin (hL 6 aJ) (hL 8 aJ) (hL 10 aJ) (hL 11 aJ) (hL 12 aJ);simp only[u10,u12];have hb4:Below W3 W3 W:=(Ap _ _).drew.trans hbe;have B4:=Aa (B3.o.trans (hb4.mono B3.o.size));have T4:=Aa (Aj T3.o (show w.heap.size<W3.heap.size by omega) hb4);have Hev4:=Aa (Hev9.o.after hb4);have y0:=(hb4.cell (p:=⟨W2.heap.size,0,none⟩) (show W2.heap.size<W3.heap.size by omega)).trans X0.o;have y1:=(hb4.cell (p:=⟨W2.heap.size,1,none⟩) (show W2.heap.size<W3.heap.size by omega)).trans X1.o;have y2:=(hb4.cell (p:=⟨W2.heap.size,2,none⟩) (show W2.heap.size<W3.heap.size by omega)).trans X2.o;have y3:=(hb4.cell (p:=⟨W2.heap.size+1,0,none⟩) (show W2.heap.size+1<W3.heap.size by omega)).trans X3.o;have y4:=(hb4.cell (p:=⟨W2.heap.size+1,1,none⟩) (show W2.heap.size+1<W3.heap.size by omega)).trans X4.o;have y5:=(hb4.cell (p:=⟨W2.heap.size+1,2,none⟩) (show W2.heap.size+1<W3.heap.size by omega)).trans X5.o;have z0:W.cell? (B,0)=some (.int .u8 (v.what.toNat:Int)):=fN;have z1:W.cell? (B,1)=v.text:=by simpa using Ab hrg 1 rfl
  have z2:W.cell? (B,2)=(v.tag:Int):=by simpa using Ab hrg 2 rfl
  have z3:W.cell? (B,3)=some (.slice A v.kids.length c):=by simpa using Ab hrg 3 rfl
  have Hiv:=Aa hiv;have hz4:=hb4.size;clear hR hL u10 u12 hrg hiv hbe hb4 Hev9 B3 T3;cases o with
  |none=>
   have HN:=@Aa (Fz (some (S,a)) (some (T,b)) x=none) Hlift.o;simp only[Option.isSome_none];clear y0 y1 y2 y3 y4 y5 z0 z1 z2 z3;go_wp2_with ((with_reducible refine Ad (op:=⟨none,.store 44 _ _,_,_,_,none⟩) rfl 44 _ _ rfl w 0 [.int .u8 0,a6,.int .i64 0,.slice none 0 0] ?_ ?_ ?_ ?_ ?_ ?_);rfl;rfl;(exact T4.o);kernel_rfl;(simp[Value.oneCell']);intro w9 HS9)
   have HZ:=(by rw[HS9.o];exact aa _ _ _ _ T4.o:w9.rangeAt w 0 (J8 Fm (.slice none 0 0)))
   refine aF (v:=.tuple #[.agg (J8 Fm (.slice none 0 0)).toArray,.bool false,.bool false]) (J9 results17 _ _ w.heap.size _ _ _ _ rfl rfl rfl HZ underlying44 rfl aL) rfl ?_;exact Zl.no HN.o rfl (by rw[HS9.o];exact Ai _ aH _ _ _ B4.o)
  |some vv=>
   obtain rfl:v=vv:=hov vv rfl;simp only[Option.isSome_some];obtain⟨R,hR,hK,hvok,hpx,hx4,_,_⟩:=Qb3 HS.o HT.o Hgb.o He.o Ho.o;have HLf:=Aa (Qjy hR HT.o HS.o xs ys Hxs.o Hys.o eb (.pointer p1) (.pointer p2) 12 a b v hK hvok Hga.o Hgb.o (by rw[hpx];omega) _ A v.kids.length c W Hev4.o Hiv.o);unfold Et Er at HLf;have HL:=@Aa (Fz (some (S,a)) (some (T,b)) x=some (Dj S 12 a v)) Hlift.o;generalize Dj S 12 a v=r at *;clear hR hK hvok hpx hx4 hov;go_wp2_with fail;refine HLf.o.mono ?_;rintro e w5 ⟨sl5,rfl,hs5,hb5⟩;obtain⟨A5,c5,rfl⟩:=hs5.form;have B5:=Aa (B4.o.trans (hb5.mono B4.o.size));have T5:=Aa (Aj T4.o (show w.heap.size<W.heap.size by omega) hb5);have Hs5:=Aa hs5;have hz5:=hb5.size;have T6:=Aa (fun o=>Aj T5.o (show w.heap.size<w5.heap.size by omega) ((Ap w5.heap.size w5).alloc (An _) o));clear hs5 hb5 y0 y1 y2 y3 y4 y5 z0 z1 z2 z3;unfold Er;go_wp2_with ((with_reducible refine Ad (op:=⟨none,.store 44 _ _,_,_,_,none⟩) rfl 44 _ _ rfl w 0 [.int .u8 (r.1.what.toNat:Int),r.1.text,(r.1.tag:Int),.slice A5 r.1.kids.length c5] ?_ ?_ ?_ ?_ ?_ ?_);rfl;rfl;(exact T6.o _);kernel_rfl;(simp[Value.oneCell']);intro w9 HS9)
   refine aF (v:=.tuple #[.agg (Kt (r.1,.slice A5 r.1.kids.length c5)).toArray,.bool r.2,.bool true]) (J9 results17 _ _ w.heap.size _ _ _ _ rfl rfl rfl (by rw[HS9.o];exact aa _ _ _ _ (T6.o _)) underlying44 rfl aL) rfl ?_;have hal:=(Ap w5.heap.size w5).alloc (An _) (.cells #[.int .u8 (r.1.what.toNat:Int),r.1.text,(r.1.tag:Int),.slice A5 r.1.kids.length c5] 44);refine⟨⟨r.1,.slice A5 r.1.kids.length c5,r.2,by rw[HL.o];rfl,?_,fun r' h=>by rw[HL.o]at h;injection h with h;subst h;exact⟨rfl,rfl⟩⟩,by rw[HS9.o];exact Ai _ aH _ _ _ (B5.o.trans (hal.mono B5.o.size))⟩;rw[HS9.o];exact((Hs5.o.after hal).set (B:=w.heap.size) (fun h=>by have h:W.heap.size<=w.heap.size:=h;omega) _).mono fun k hk _=>ad aH hk
theorem Qgm{s1 d1 s2 d2 x:List UInt8}{r:Vl × Bool}(h:Fz (At s1 d1) (At s2 d2) x=some r):Bd r.1/\r.2=(Bc r.1 != x):=by
 cases h1:At s1 d1 with
 |none=>rw[h1]at h;cases h
 |some y1=>
  cases h2:At s2 d2 with
  |none=>rw[h1,h2]at h;cases h
  |some y2=>
   obtain⟨S,a⟩:=y1;obtain⟨T,b⟩:=y2;rw[h1,h2]at h;have h:(if H8 S T a b=true then(Gd T b x).map (Dj S 12 a)else none)=some r:=h;split at h
   ·rename_i he;cases hv:Gd T b x with
    |none=>rw[hv]at h;cases h
    |some v=>
     rw[hv]at h;injection h with h;subst h;obtain⟨_,_,_,_,hpx,_,hB,hL⟩:=Qb3 (Cs h1).1 (Cs h2).1 (Cs h2).2.2.2.1 he hv;refine⟨hB,?_⟩;cases e:(Dj S 12 a v).2 with
     |false=>rw[hL.1 e,hpx];simp
     |true=>have:=hL.2 e;rw[hpx]at this;symm;rw[bne_iff_ne];intro e2;rw[e2]at this;omega
   cases h
theorem Ya(s1 d1 s2 d2 x:List UInt8)(w:World)(h1:s1.length<=4000000)(h2:d1.length<=4000000)(h3:s2.length<=4000000)(h4:d2.length<=4000000)(h5:x.length<=4000000):
  Calls prog 7 #[s1,d1,s2,d2,x] w (Qdf (Fz (At s1 d1) (At s2 d2) x) w):=by
 have H:=Aa (fun W=>Qfw s1 d1 s2 d2 x W h1 h2 h3 h4 h5);have HG:=Aa (fun r (h:Fz (At s1 d1) (At s2 d2) x=some r)=>(Qgm h).1);generalize Fz (At s1 d1) (At s2 d2) x=o at *;go_enter func7,ntmps7;go_wp2_with fail;refine(H.o _).mono ?_;rintro e w1 ⟨⟨v,sl,l,rfl,hs1,hr1⟩,hb1⟩;obtain⟨A1,c1,rfl⟩:=hs1.form;have Hb1:=Aa hb1;have Hr1:=Aa hr1;have hal:=(Ap w1.heap.size w1).alloc (An _) (.cells #[.int .u8 (v.what.toNat:Int),v.text,(v.tag:Int),.slice A1 v.kids.length c1] 44);have Hal:=Aa hal;have Hs1:=Aa (hs1.after hal);clear hb1 hr1 hal hs1;unfold Er;cases o with
 |none=>
  simp only[Option.isSome_none];go_wp2_with fail;refine aF (v:=.tuple #[a6,.bool false]) (by simp[results,results7,go_sem]) rfl ?_;exact⟨rfl,Hb1.o.trans (Hal.o.mono Hb1.o.size)⟩
 |some r=>
  obtain⟨rfl,rfl⟩:=Hr1.o r rfl;have HP:=Aa (Td _ (HG.o r rfl) _ _ Hs1.o);unfold Er at HP;simp only[Option.isSome_some];go_wp2_with fail;refine HP.o.mono ?_;rintro e w4 ⟨rfl,hb4⟩;have Hb4:=Aa ((Hb1.o.trans (Hal.o.mono Hb1.o.size)).trans (hb4.mono (Hb1.o.trans (Hal.o.mono Hb1.o.size)).size));clear hb4;go_wp2_with fail;refine aF (v:=.tuple #[.string ⟨(Bc r.1).toArray⟩,.bool true]) (by simp[results,results7,go_sem]) rfl ?_;exact⟨rfl,Hb4.o⟩
theorem Qit(u:Value)(vs:List Fw)(n:Int)(x:List UInt8)(w:World)(h:Gz w u vs)(hn:vs.length<=1048577)(hl:∀y∈vs,y.1.length<=4000000/\y.2.length<=4000000)(hlo:-9223372036854775808<=n)(hhi:n<=9223372036854775807)(hx:x.length<=4000000):
  Calls prog 5 #[.agg #[u],.int .i64 n,x] w (Qhi (J2 vs n x) w):=by
 have Hv:=Aa h;have Hl:=Aa hl;have Ha:=Aa (fun W (hW:Gz W u vs)=>Qck u vs n W hW hn hl hlo hhi);obtain⟨A,c,rfl,hcap,hvm,hr⟩:=h;have Hr:=Aa hr;clear hl hr;go_enter func5,ntmps5;go_wp2_with fail;obtain⟨W1,hW1⟩:∃W1,W1=w.alloc (.cells #[.slice A vs.length c] 25):=⟨_,rfl⟩
 rw[<-hW1];have hz1:W1.heap.size=w.heap.size+1:=cm;have B1:=Aa (show Below w w W1 by rw[hW1];exact(Ap _ _).alloc (An _) _);have C1:=Aa (show W1.cell? (w,0)=some (.slice A vs.length c)by rw[hW1];simp[go_sem]);clear hW1;refine(Ha.o W1 (Hv.o.below B1.o)).mono ?_;rintro e w2 ⟨a,b,rfl,hab,hb2⟩;have hz2:=hb2.size;have C2:=Aa ((hb2.cell (p:=⟨w.heap.size,0,none⟩) (show w.heap.size<W1.heap.size by omega)).trans C1.o);have B2:=Aa (B1.o.trans (hb2.mono aH));clear hb2;obtain⟨W3,hW3⟩:∃W3,W3=w2.alloc (.cells #[.string a,.string b] 31):=⟨_,rfl⟩
 have hz3:W3.heap.size=w2.heap.size+1:=ee;have b3:Below w2 w2 W3:=dg;have B3:=Aa (B2.o.trans (b3.mono B2.o.size));have C3:=Aa ((b3.cell (p:=⟨w.heap.size,0,none⟩) (show w.heap.size<w2.heap.size by omega)).trans C2.o);have T3:=Aa (show W3.there w2 0 2 by rw[hW3];exact Bu w2 [.string a,.string b] 31);have R3:=Aa (show W3.rangeAt w2 0 [.string a,.string b]by rw[hW3];exact Bk w2 [.string a,.string b] 31);have HW3:=Aa hW3;clear b3 hW3;cases hat:atL vs n with
 |none=>
  have HN:=Aa (show J2 vs n x=none by unfold J2;rw[hat]);clear hat hab;go_wp2_with fail;rw[<-HW3.o];refine aF (v:=.tuple #[a6,.bool false]) (by simp[results,results5,go_sem]) rfl ?_;exact⟨by rw[HN.o];rfl,B3.o⟩
 |some v=>
  obtain⟨rfl,rfl⟩:=hab v hat;have HP:=Aa (show J2 vs n x=if (No (At v.1 v.2) x).isSome=true then goP v (vs.drop n.toNat) x else none by unfold J2;rw[hat]);obtain⟨_,k0,rfl,hk0,hv0⟩:=Ze hat;have hlv:v.1.length<=4000000/\v.2.length<=4000000:=Hl.o v (by rw[hv0,Eg hk0];exact ae hk0);have Hvo:=Aa (fun W=>Vm v.1 v.2 x W hlv.1 hlv.2 hx);have HV0:=Aa hv0;clear hat hab hlv hv0;generalize (No (At v.1 v.2) x).isSome=ok at *;go_wp2_with fail;rw[<-HW3.o];refine(Hvo.o W3).mono ?_;rintro e w4 ⟨rfl,hb4⟩;have hz4:=hb4.size;have B4:=Aa (B3.o.trans (hb4.mono B3.o.size));have C4:=Aa ((hb4.cell (p:=⟨w.heap.size,0,none⟩) (show w.heap.size<W3.heap.size by omega)).trans C3.o);have T4:=Aa (Aj T3.o aH hb4);have R4:=Aa (Ah R3.o aH hb4);clear hb4 R3 T3 C3 HW3;cases ok with
  |false=>
   have HN:=@Aa (J2 vs ((k0:Int)+1) x=none) HP.o;go_wp2_with fail;refine aF (v:=.tuple #[a6,.bool false]) (by simp[results,results5,go_sem]) rfl ?_;exact⟨by rw[HN.o];rfl,B4.o⟩
  |true=>
   have HN:=@Aa (J2 vs ((k0:Int)+1) x=goP v (vs.drop (k0+1)) x) (HP.o.trans (by rw[if_pos rfl];rfl));clear HP;generalize J2 vs ((k0:Int)+1) x=res at *;have c4:=C4.o;have hcap0:(k0:Int)+1<=(c:Int):=aH;have hcap1:(k0:Int)+1<=(vs.length:Int):=aH;have hlc:(vs.length:Int)<=(c:Int):=aH;obtain⟨bA,oA,rfl,hbA,_,_⟩:=Gz.at_ (Hr.o.below B4.o) hk0;obtain⟨m,hm⟩:∃m,vs.length=k0+1+m:=⟨vs.length - (k0+1),by omega⟩
   have e1:((k0:Int)+1).toNat=k0+1:=aH;have e2:vs.length - (k0+1)=m:=aH;have Hm:=Aa hm;have hn0:(0:Int)<=(k0:Int)+1:=aH;by_cases hcc:c=k0+1
   ·have hm0:m=0:=aH;have HE:=Aa (show res=some x by rw[HN.o];exact Qcn aH);subst hm0;clear hm;subst hcc;go_wp2_with fail;go_loopw [2,34] (fun q1 q2 wr=>q1=x/\q2=.int .i64 0/\wr=w4) (fun _ _ _=>0)
    case atStart=>exact⟨rfl,rfl,rfl⟩
    case round=>
     obtain⟨rfl,rfl,rfl⟩:=hrel;go_wp2_with fail;refine aF (v:=.tuple #[x,.bool true]) (by simp[results,results5,go_sem]) rfl ?_;exact⟨by rw[HE.o];rfl,B4.o⟩
   clear hm;go_wp2_with fail;go_loopw [2,34] (fun q1 q2 wr=>∃(i:Nat) (s:List UInt8),q1=s/\q2=(i:Int)/\0<=i/\k0+1+i<=vs.length/\s.length<=4000000/\Hid (res=goP (Cf vs (k0+1+i - 1)) (vs.drop (k0+1+i)) s)/\Hid (Below w w wr)/\w2.heap.size<wr.heap.size/\Hid (wr.cell? (w,0)=some (.slice (some ⟨bA,oA,none⟩) vs.length c))/\Hid (wr.there w2 0 2)/\Hid (wr.rangeAt w2 0 [.string ⟨(Cf vs (k0+1+i - 1)).1.toArray⟩,.string ⟨(Cf vs (k0+1+i - 1)).2.toArray⟩])) (fun _ q _=>vs.length - (intOf q).toNat)
   case atStart=>
    exact⟨0,x,rfl,rfl,An _,hk0,hx,by have:=HN.o;rw[HV0.o]at this;exact this,B4.o,by omega,C4.o,T4.o,by have:=R4.o;rw[HV0.o]at this;exact this⟩
   case round=>
    obtain⟨i,s,rfl,rfl,hik,hi,hsl,hinv,hb,hszr,hc,hT,hR⟩:=hrel;have i1:(0:Int)<=(i:Int):=aH;have hc0:=hc.o;by_cases hlt:k0+1+i<vs.length
    ·have i2:(i:Int)<(m:Int):=by have:=Hm.o;omega
     obtain⟨bb,off,eA,hbl,x0,x1⟩:=Gz.at_ (Hr.o.below hb.o) hlt;have Hx:=@Aa (Cf vs (k0+1+i)=vs[k0+1+i]) (Eg hlt);have hxl:=Hl.o _ (ae hlt);have hyl:(Cf vs (k0+1+i - 1)).1.length<=4000000/\(Cf vs (k0+1+i - 1)).2.length<=4000000:=Hl.o _ gK;have Hgo':=Aa (Qfj (v:=Cf vs (k0+1+i - 1)) (s:=s) hlt);rw[Hx.o]at Hgo';generalize vs[k0+1+i]=y at x0 x1 hxl Hx Hgo';generalize hz:Cf vs (k0+1+i - 1)=z at hyl hR Hgo' hinv;have Hlf:=Aa (fun W=>Ya y.1 y.2 z.1 z.2 s W hxl.1 hxl.2 hyl.1 hyl.2 hsl);have Hgood:=Aa (fun r (h:Fz (At y.1 y.2) (At z.1 z.2) s=some r)=>V7 h);generalize Fz (At y.1 y.2) (At z.1 z.2) s=o at *;have z0:=Ab hR.o 0 rfl;have z1:=Ab hR.o 1 rfl;simp only[am]at z0 z1;injection eA with eA;injection eA with eA1 eA2;subst eA1 eA2;rw[show oA+(k0+1+i)*2=oA+(k0+1)*2+i*2 by omega]at x0 x1;have hz8:w2.heap.size<wr.heap.size:=hszr;have hz8n:¬(w2.heap.size=wr.heap.size):=aH;clear hxl hyl hz;go_wp2_with fail;refine(Hlf.o _).mono ?_;rintro e w5 ⟨rfl,hb5⟩;have hz5:=hb5.size;simp at hz5;have b5:Below wr wr w5:=((Ap _ _).alloc (An _) _).trans (hb5.mono aK);have B5:=Aa (hb.o.trans (b5.mono hb.o.size));have C5:=Aa ((b5.cell (p:=⟨w.heap.size,0,none⟩) (show w.heap.size<wr.heap.size by omega)).trans hc.o);have T5:=Aa (Aj hT.o hszr b5);have Y5:=Aa (Ah (Bk wr [y.1,y.2] 31) aK hb5);have y0:=Ab Y5.o 0 rfl;have y1:=Ab Y5.o 1 rfl;simp only[am]at y0 y1;clear hb5 b5 x0 x1 z0 z1 hc0;cases o with
     |none=>
      have HE:=Aa (show res=none by rw[hinv.o];exact Hgo'.out);simp only[Qgk,Option.isSome_none];go_wp2_with fail;refine aF (v:=.tuple #[a6,.bool false]) (by simp[results,results5,go_sem]) rfl ?_;exact⟨by rw[HE.o];rfl,B5.o⟩
     |some r=>
      have HE:=Aa (show res=goP y (vs.drop (k0+1+i+1)) (Bc r.1)by rw[hinv.o];exact Hgo'.out);have hrl:(Bc r.1).length<=4000000:=ad (Hgood.o r rfl) aH;simp only[Qgk,Option.isSome_some];generalize Bc r.1=s2 at *;go_wp2_with ((with_reducible refine Ad (op:=⟨none,.store 31 _ _,_,_,_,none⟩) rfl 31 _ _ rfl w2 0 [y.1,y.2] ?_ ?_ ?_ ?_ ?_ ?_);rfl;rfl;(exact T5.o);kernel_rfl;(simp[Value.oneCell']);intro w9 HS9)
      go_roundw
      case rel=>
       refine⟨i+1,s2,rfl,by go_num,by omega,by omega,hrl,?_,?_,?_,?_,?_,?_⟩
       ·rw[show k0+1+(i+1) - 1=k0+1+i by omega,Hx.o];exact HE.o
       ·rw[HS9.o];exact Ai _ aH _ _ _ B5.o
       ·rw[HS9.o,Ce];omega
       ·rw[HS9.o];exact Zy C5.o aH
       ·rw[HS9.o];exact ai T5.o _ _ _
       ·rw[HS9.o,show k0+1+(i+1) - 1=k0+1+i by omega,Hx.o];exact aa _ _ _ _ T5.o
      case measure=>simp[intOf];omega
    ·have i2:¬(i:Int)<(m:Int):=by have:=Hm.o;omega
     have HE:=Aa (show res=some s by rw[hinv.o];exact Qcn aH);go_wp2_with fail;refine aF (v:=.tuple #[s,.bool true]) (by simp[results,results5,go_sem]) rfl ?_;exact⟨by rw[HE.o];rfl,hb.o⟩
end
end Go.Proofs.YtbdibdghphdcdaaGreatDoor
