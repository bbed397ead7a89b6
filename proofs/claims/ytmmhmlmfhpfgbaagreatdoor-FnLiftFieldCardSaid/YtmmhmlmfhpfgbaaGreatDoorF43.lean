/- Texts joined. Conditions: as each theorem names them. -/
import Derived.Test.YtmmhmlmfhpfgbaaGreatDoorF42
set_option maxRecDepth 100000
set_option maxHeartbeats 32000000
set_option linter.unusedVariables false
set_option linter.unusedSimpArgs false
namespace Go.Proofs.YtmmhmlmfhpfgbaaGreatDoor
open Go.RowKit Go.Proofs.Tryz
section
attribute [local go_sem] Qoe Qnf Qmu Qk2 ByteArray.mk_append_mk
def RcR(P:Nat->Prop)(w:World)(eb pb1:Nat)(xp yp:PT)(p:Nat × Vl)(o:List Vl × Bool):Prop:=
 p.1<=1000000000/\((Au xp.ty.fields p.1=none/\o=([],true))\/∃(f g:Fd) (r:Vl × Bool) (pv ov:List UInt8),Au xp.ty.fields p.1=some f/\Au yp.ty.fields p.1=some g /\
  (∀W A n c,Below w w W->Ea P W (.slice A n c) p.2.kids->Calls prog 115 #[eb,D9 f.kind,D9 g.kind,Ec p.2 (.slice A n c)] W (Mu r W)) /\
  (∀(Q:Nat->Prop) W sl,Ea Q W sl r.1.kids->Calls prog 44 #[Ec r.1 sl] W fun e w'=>e=.returned pv/\Below W W w') /\
  (∀W b o,Below w w W->b<w.heap.size->w.rangeAt b o (Rt f)->Calls prog 59 #[pb1,.pointer (some ⟨b,o,none⟩)] W (Fz ov W)) /\
  ((pv=ov/\o=([],true))\/(pv≠ov/\o=([.mk 61 [] p.1 [r.1]],r.2))))
def fdV(p:Nat × Vl):Vl:=.mk 61 [] p.1 [p.2]
theorem Qi4(P:Nat->Prop)(w:World)(eb:Nat)(a b:Kd)(hs:a.signs=[])(hb:a.base=[64])(vv:Vl)(hw82:vv.what=82)(ps:List (Nat × Vl))(hk:vv.kids=ps.map fdV)(A2:Option Addr)(c2:Nat)(hiv:Ea P w (.slice A2 vv.kids.length c2) vv.kids)(xp yp:PT)(pb1 mb1 pb2 mb2:Nat)(hlk:LkT w eb a.name b.name xp.blk yp.blk pb1 mb1 pb2 mb2)
  (hxp:P8 w xp) (hyp:P8 w yp) (outs:List (List Vl × Bool)) (hol:outs.length=ps.length) (hO:∀i (hi:i<ps.length) (hj:i<outs.length),RcR P w eb pb1 xp yp ps[i] outs[i]) (hsm:∀k,k<=outs.length->((outs.take k).flatMap (·.1)).length<=k):
  Calls prog 115 #[.pointer (some ⟨eb,0,none⟩),D9 a,D9 b,Ec vv (.slice A2 vv.kids.length c2)] w (Mu (.mk vv.what vv.text vv.tag (outs.flatMap (·.1)),outs.any (·.2)) w):=by
 have Hs:=Aa hs;have Hb:=Aa hb;have HLk:=Aa hlk;have T82:=@Aa (((vv.what.toNat:Int) == 82)=true) (by rw[hw82];rfl);have T85:=@Aa (((vv.what.toNat:Int) == 85)=false) (by rw[hw82];rfl);have HO:=Aa hO;have Hol:=Aa hol;have Hxp:=Aa hxp;have Hyp:=Aa hyp;have Hsm:=Aa hsm;obtain⟨A',c',ks,hv,hkk,hl,hr,hP,hks⟩:=hiv;injection hv with hv1 hv2 hv3;subst hv1 hv3;have Hkk:=@Aa (Bc ks=ps.map fdV) (hkk ▸ hk)
 have hnp : ps.length ≤ 1000 := by have:ks.length=ps.length:=by have:=congrArg List.length Hkk.o;simpa [Bc]using this
                                   omega
 have Hkn:=@Aa (ks.length=ps.length) (by have:=congrArg List.length Hkk.o;simpa [Bc]using this);have hvn:vv.kids.length=ps.length:=by rw[hk];simp
 have Hr:=Aa hr;have Hks:=Aa hks;obtain⟨n2,hn2⟩:∃n2,n2=ps.length:=⟨_,rfl⟩
 rw[hvn];clear hO hs hb hk hlk hw82 hol hxp hyp hsm hv2 hkk hl hr hP hks hvn;obtain⟨W7,hW7⟩:∃W7,W7=(((((((w.alloc (.cells #[.pointer (some ⟨eb,0,none⟩)] 160)).alloc (.cells #[.string ⟨a.signs.toArray⟩,.string ⟨a.base.toArray⟩,.string ⟨a.name.toArray⟩] 60)).alloc (.cells #[.string ⟨b.signs.toArray⟩,.string ⟨b.base.toArray⟩,.string ⟨b.name.toArray⟩] 60)).alloc (.cells #[.int .u8 (vv.what.toNat:Int),.string ⟨vv.text.toArray⟩,.int .i64 (vv.tag:Int),.slice A2 n2 c2] 68)).alloc (.cells #[.int .u8 0,.string ⟨#[]⟩,.int .i64 0,.slice none 0 0] 68)).alloc (.cells #[.int .u8 (vv.what.toNat:Int),.string ⟨vv.text.toArray⟩,.int .i64 (vv.tag:Int),.slice none 0 0] 68)).alloc (.cells #[.bool false] 4)):=⟨_,rfl⟩
 have HH:=Aa (X7 w W7 eb a b vv A2 n2 c2 hW7);unfold D9 Ec;go_enter func115,ntmps115;go_upto_region 4 with fail
 subst hn2;rw[<-hW7];clear hW7;have e1:=HH.o.a0;have e2:=HH.o.a1;have t1:a.signs.isEmpty=true:=gc;rw[Hs.o]at e1;rw[Hb.o]at e2;have hbw:=HH.o.st.bel;have hz7:=HH.o.sz;go_upto_region 13 with fail
 refine Jd [58,59,60,61,62,63,64,65,66,67,68,69,70,71,72,73,74,75,76,77,15,16]
  (fun ix v W=>match ix with|0=>v=.pointer (some ⟨eb,0,none⟩)|1=>v=.pointer (some ⟨eb,0,none⟩)|2=>v=.pointer (some ⟨eb,0,none⟩)|3=>v=.pointer (some ⟨pb1,0,none⟩)|4=>v=.pointer (some ⟨pb1,0,none⟩)|5=>v=.pointer (some ⟨pb1,1,none⟩)|6=>v=.map (some mb1)|7=>v=.pointer (some ⟨w.heap.size+1,2,none⟩)|8=>v=.string ⟨a.name.toArray⟩|9=>v=.pointer (some ⟨xp.blk,0,none⟩)|10=>v=.pointer (some ⟨eb,0,none⟩)|11=>v=.pointer (some ⟨eb,0,none⟩)|12=>v=.pointer (some ⟨eb,1,none⟩)|13=>v=.pointer (some ⟨pb2,0,none⟩)|14=>v=.pointer (some ⟨pb2,0,none⟩)|15=>v=.pointer (some ⟨pb2,1,none⟩)|16=>v=.map (some mb2)|17=>v=.pointer (some ⟨w.heap.size+2,2,none⟩)|18=>v=.string ⟨b.name.toArray⟩|19=>v=.pointer (some ⟨yp.blk,0,none⟩)|20=>v=.pointer (some ⟨xp.blk,0,none⟩)|21=>v=.pointer (some ⟨yp.blk,0,none⟩)|_=>True)
  (fun L U W=>W=W7.drew) (rfl) ?_ ?_
 ·exact ia
 rintro L U W hL hφ hR;have e20:U 20=.pointer (some ⟨xp.blk,0,none⟩):=hφ 20 aJ;have e21:U 21=.pointer (some ⟨yp.blk,0,none⟩):=hφ 21 aJ;simp only[e20,e21];clear hφ;subst hR;clear hL;have e5:=HH.o.v0;have t82:=T82.o;have t85:=T85.o;have e6:=HH.o.v3;go_wp2_with fail;clear e5 e6 t82 t85 e1 e2;go_loopw [109] (fun ix wr=>∃(i:Nat) (A:Option Addr) (c:Nat) (l:Bool) (xs:List (Vl × Value)),ix=.int .i64 (i:Int)/\i<=ps.length/\Hid (xs.map (·.1)=(outs.take i).flatMap (·.1))/\Hid (l=(outs.take i).any (·.2))/\xs.length<=1000/\Hid (LiS w W7 wr (.int .u8 (vv.what.toNat:Int)) (.string ⟨vv.text.toArray⟩) (.int .i64 (vv.tag:Int)) l (.slice A xs.length c) xs)) (fun ix _=>ps.length - (intOf ix).toNat)
 case atStart=>exact⟨0,none,0,false,[],rfl,ag _,rfl,rfl,by simp,HH.o.st.after (Ao _ _).drew⟩
 case round=>
  obtain⟨i,A,c,l,xs,rfl,hi,Hxs,Hl,hxl,HL⟩:=hrel;have i0:(0:Int)<=(i:Int):=aH;by_cases hlt:i<ps.length
  ·have i1:(i:Int)<(ps.length:Int):=aH;have hik:i<ks.length:=by have:=Hkn.o;omega
   have hio:i<outs.length:=by have:=Hol.o;omega
   obtain⟨B2,o2,rfl,hBl,x0,x1,x2,x3⟩:=Ea.at_ Hr.o hik;have hxk:=Hks.o _ (ae hik);have hxe:(ks[i]'hik).1=fdV ps[i]:=by
    have h1:(Bc ks)[i]'(by simpa [Bc]using hik)=(ps.map fdV)[i]' fE:=by simp only[Hkk.o]
    simpa [Bc]using h1
   have HOi:=Aa (HO.o i hlt hio);have Htk:=@Aa (outs.take (i+1)=outs.take i++[outs[i]]) (List.take_succ_eq_append_getElem hio);have hsm1:=Hsm.o (i+1) aH;rw[Htk.o]at hsm1;have Hsm1:=Aa hsm1;clear hsm1;generalize outs[i]=o at *;generalize ps[i]=p at *;generalize ks[i]'hik=y at *;obtain⟨yv,slx⟩:=y;obtain⟨tg,pv0⟩:=p;simp only at x0 x1 x2 x3 hxk hxe;subst hxe;obtain⟨A9,c9,rfl⟩:=hxk.form;have Hxk:=@Aa (Ea P w (.slice A9 1 c9) [pv0]) hxk;have hBr:B2<wr.heap.size:=ac hBl HL.o.bel.size;have y0:wr.cell? ⟨B2,o2+i*4,none⟩=some (.int .u8 61):=(HL.o.bel.cell (p:=⟨B2,o2+i*4,none⟩) hBl).trans x0;have y1:wr.cell? ⟨B2,o2+i*4+1,none⟩=some (.string ⟨#[]⟩):=(HL.o.bel.cell (p:=⟨B2,o2+i*4+1,none⟩) hBl).trans x1;have y2:wr.cell? ⟨B2,o2+i*4+2,none⟩=some (.int .i64 (tg:Int)):=(HL.o.bel.cell (p:=⟨B2,o2+i*4+2,none⟩) hBl).trans x2;have y3:wr.cell? ⟨B2,o2+i*4+3,none⟩=some (.slice A9 1 c9):=(HL.o.bel.cell (p:=⟨B2,o2+i*4+3,none⟩) hBl).trans x3;obtain⟨W1,hW1⟩:∃W1,W1=wr.alloc (.cells #[.int .u8 61,.string ⟨#[]⟩,.int .i64 (tg:Int),.slice A9 1 c9] 68):=⟨_,rfl⟩
   have hb1:Below wr.heap.size wr W1:=gx;have HL1:=Aa (HL.o.after hb1);have Z2:=@Aa (W1.cell? ⟨wr.heap.size,2,none⟩=some (.int .i64 (tg:Int))) dx;have Z3:=@Aa (W1.cell? ⟨wr.heap.size,3,none⟩=some (.slice A9 1 c9)) dx;have hzr:wr.heap.size<W1.heap.size:=cG;obtain⟨htg,hway⟩:=HOi.o;simp only at htg hway;have Hway:=Aa hway;clear x0 x1 x2 x3 hxk hb1 hway HOi;rcases Hway.o with⟨hfn,ho⟩|⟨f,g,r,pv,ov,hf,hg,hC,hPr,hOf,hway⟩
   ·have HFn:=Aa (show ∀W,Below w.heap.size w W->Calls prog 57 #[.pointer (some ⟨xp.blk,0,none⟩),.int .i64 (tg:Int)] W fun e w'=>e=.returned (.pointer none)/\W=w' from fun W hW=>by
     refine(Ke w xp Hxp.o tg W hW htg).mono ?_;rintro e w' ⟨v,rfl,hv,rfl⟩;rw[hfn]at hv;exact⟨by rw[show v=.pointer none from hv],rfl⟩)
    have Ho:=Aa ho;clear hfn ho;go_wp2_with fail;rw[<-hW1];clear hW1;refine(HFn.o _ HL1.o.bel).mono ?_;rintro e w5 ⟨rfl,rfl⟩;have z2:=Z2.o;have q6:=HL1.o.c6;have q7:=HL1.o.f6;have q8:w.heap.size+6<W1.heap.size:=HL1.o.st.bs;clear y0 y1 y2 y3;go_wp2_with fail;have HLn:=Aa (HL1.o.one (l':=true) (Am W1 (w.heap.size+6) 0 (.bool true)) (by simp[go_sem,q6,q7]) (by simp[go_sem,q7]));go_roundw
    case rel=>exact⟨i+1,A,c,true,xs,by go_num,by omega,eO,fP,hxl,HLn.o⟩
    case measure=>simp[intOf];omega
   obtain⟨fb,fo,hfl,hfr,hfc⟩:=Xy w xp Hxp.o tg htg f hf;obtain⟨gb,go,hgl,hgr,hgc⟩:=Xy w yp Hyp.o tg htg g hg;have Hfr:=Aa hfr;have Hfc:=Aa hfc;have Hgr:=Aa hgr;have Hgc:=Aa hgc;have HPr:=Aa hPr;have HOf:=Aa hOf;have Hwy:=Aa hway;obtain⟨A',c',k',hv',hkk',hl',hr',hP',hks'⟩:=Hxk.o;injection hv' with v1 v2 v3;subst v1 v3;obtain⟨⟨x',sx⟩,rfl⟩:=List.length_eq_one_iff.1 v2.symm;obtain rfl:x'=pv0:=by simp[Bc]at hkk';exact hkk'.symm
   have hsx:=hks' _ (aq.2 rfl);obtain⟨B3,o3,rfl,hB3,z0,z1,z2,z3⟩:=Ea.at_ (i:=0) hr' aK;simp only[Nat.zero_mul,Nat.add_zero,List.getElem_cons_zero]at z0 z1 z2 z3 hsx;obtain⟨A9,q9,rfl⟩:=hsx.form;have X0:=Aa z0;have X1:=Aa z1;have X2:=Aa z2;have X3:=Aa z3;have h6:w.heap.size+6<W1.heap.size:=HL1.o.st.bs
   have HC1:=Aa (show ∀W,Below W1.heap.size W1 W->Calls prog 169 #[D9 f.kind,D9 g.kind,Ec x' (.slice A9 x'.kids.length q9),.pointer (some ⟨w.heap.size,0,none⟩),.pointer (some ⟨w.heap.size+6,0,none⟩)] W (Qbq r l (w.heap.size+6) W)from fun W hW=>by
    have hL:=HL1.o.after hW;have hz:=hL.st.bs;exact Qfh W eb w.heap.size (w.heap.size+6) aH aH ((hL.keep.cell (p:=⟨w.heap.size,0,none⟩) (show w.heap.size<w.heap.size+5 by omega)).trans HH.o.e0) l hL.c6 hL.f6 f.kind g.kind x' A9 _ q9 r fun W' hW'=>hC W' A9 _ q9 (hL.bel.trans (hW'.mono hL.bel.size)) (hsx.after (hL.bel.trans (hW'.mono hL.bel.size))))
   unfold D9 Ec at HC1;unfold Ec at HPr;clear hf hg hfr hfc hgr hgc hPr hOf hway hkk' hl' hr' hP' hks' hsx z0 z1 z2 z3 v2 hC Hway Hxk;go_wp2_with fail;rw[<-hW1];clear hW1;refine(Hfc.o _ HL1.o.bel).mono ?_;rintro e w5 ⟨rfl,rfl⟩;clear y0 y1 y2 y3;go_upto_region 24 with fail
   refine Jd [119,120,121,122,123,124,125,126,127,128,129,130,131,132,133,134,135,20,999]
    (fun ix v W=>match ix with|0=>v=.func (.func 169) #[] #[.pointer (some ⟨w.heap.size,0,none⟩),.pointer (some ⟨w.heap.size+6,0,none⟩)]|1=>v=.pointer (some ⟨fb,fo,none⟩)|2=>v=.pointer (some ⟨fb,fo,none⟩)|3=>v=.pointer (some ⟨fb,fo+2,none⟩)|4=>v=.agg #[.string ⟨f.kind.signs.toArray⟩,.string ⟨f.kind.base.toArray⟩,.string ⟨f.kind.name.toArray⟩]|5=>v=.pointer (some ⟨yp.blk,0,none⟩)|6=>v=.pointer (some ⟨wr.heap.size,2,none⟩)|7=>v=.int .i64 (tg:Int)|8=>v=.pointer (some ⟨gb,go,none⟩)|9=>v=.pointer (some ⟨gb,go,none⟩)|10=>v=.pointer (some ⟨gb,go+2,none⟩)|11=>v=.agg #[.string ⟨g.kind.signs.toArray⟩,.string ⟨g.kind.base.toArray⟩,.string ⟨g.kind.name.toArray⟩]|12=>v=.pointer (some ⟨wr.heap.size,3,none⟩)|13=>v=.slice (some ⟨B3,o3,none⟩) 1 c9|14=>v=.pointer (some ⟨B3,o3,none⟩)|15=>v=.agg #[.int .u8 (x'.what.toNat:Int),.string ⟨x'.text.toArray⟩,.int .i64 (x'.tag:Int),.slice A9 x'.kids.length q9]|_=>True)
    (fun L U W=>Ss W1.drew (w.heap.size+6) l r (L 16) (L 17) (L 18) (U 16) (U 17) W) (Ss.start) ?_ ?_
   ·repeat (first|exact Ak.nil|(refine Ak.cons ?_ ?_;rotate_left))
    all_goals
     rintro L U W hL hpre HR Hdep K hK;first|(simp[Region.binds]at hpre;done)|simp[Region.binds]at hpre|clear hpre
    iterate 4
     ·exact hD
    ·have h16:L 16=false:=(Bb Hdep.o 16 4 rfl hL)
     have hb1:Below W1.heap.size W1 W:=(Ao _ _).drew.trans (HR.o.s0 h16);have hbw:=HL1.o.bel.trans (hb1.mono HL1.o.bel.size);exact m6
    iterate 2
     ·exact hD
    ·have h16:L 16=false:=(Bb Hdep.o 16 11 rfl (Bb Hdep.o 11 10 rfl (Bb Hdep.o 10 9 rfl (Bb Hdep.o 9 8 rfl (Bb Hdep.o 8 7 rfl hL)))))
     have hb1:Below W1.heap.size W1 W:=(Ao _ _).drew.trans (HR.o.s0 h16);have hbw:=HL1.o.bel.trans (hb1.mono HL1.o.bel.size);have x0:=(hb1.cell (p:=⟨wr.heap.size,2,none⟩) hzr).trans Z2.o;exact kL
    ·have h16:L 16=false:=(Bb Hdep.o 16 11 rfl (Bb Hdep.o 11 10 rfl (Bb Hdep.o 10 9 rfl (Bb Hdep.o 9 8 rfl hL))))
     have hb1:Below W1.heap.size W1 W:=(Ao _ _).drew.trans (HR.o.s0 h16);have hbw:=HL1.o.bel.trans (hb1.mono HL1.o.bel.size);go_simp;refine(Hgc.o _ hbw).mono ?_;rintro e w5 ⟨rfl,rfl⟩;exact kJ
    iterate 2
     ·exact hD
    ·have h16:L 16=false:=(Bb Hdep.o 16 11 rfl hL)
     have hb1:Below W1.heap.size W1 W:=(Ao _ _).drew.trans (HR.o.s0 h16);have hbw:=HL1.o.bel.trans (hb1.mono HL1.o.bel.size);exact m7
    ·exact hD
    ·have h16:L 16=false:=(Bb Hdep.o 16 15 rfl (Bb Hdep.o 15 14 rfl (Bb Hdep.o 14 13 rfl hL)))
     have hb1:Below W1.heap.size W1 W:=(Ao _ _).drew.trans (HR.o.s0 h16);have hbw:=HL1.o.bel.trans (hb1.mono HL1.o.bel.size);have x0:=(hb1.cell (p:=⟨wr.heap.size,3,none⟩) hzr).trans Z3.o;exact kL
    ·exact hD
    ·have h16:L 16=false:=(Bb Hdep.o 16 15 rfl hL)
     have hb1:Below W1.heap.size W1 W:=(Ao _ _).drew.trans (HR.o.s0 h16);have hbw:=HL1.o.bel.trans (hb1.mono HL1.o.bel.size);have y0:=(hbw.cell (p:=⟨B3,o3,none⟩) hB3).trans X0.o;have y1:=(hbw.cell (p:=⟨B3,o3+1,none⟩) hB3).trans X1.o;have y2:=(hbw.cell (p:=⟨B3,o3+2,none⟩) hB3).trans X2.o;have y3:=(hbw.cell (p:=⟨B3,o3+3,none⟩) hB3).trans X3.o;exact kL
    ·have h16:L 16=false:=hL;have hb1:Below W1.heap.size W1 W:=(Ao _ _).drew.trans (HR.o.s0 h16);have hbw:=HL1.o.bel.trans (hb1.mono HL1.o.bel.size);have h18:L 18=false:=Bb Hdep.o 18 16 rfl hL;go_simp;refine(HC1.o _ hb1).mono ?_;rintro e w5 ⟨sl5,rfl,hs5,hg5,hc5,hf5⟩;obtain⟨A5,c5,rfl⟩:=hs5.form;go_simp;exact hK (Ec r.1 (.slice A5 r.1.kids.length c5)) _ _ Ac Ac (HR.o.put16 hL h18 h6 hs5 hg5 hc5 hf5) eL
    ·have h18:L 18=false:=Bb Hdep.o 18 17 rfl hL;go_simp;exact hK _ _ _ Ac Ac (HR.o.put17 h18 hL _) rfl
    ·have l16:L 16=true:=dT;have l17:L 17=true:=dU;obtain⟨B,sl5,u17,u16,⟨A5,n5,c5,e5⟩,ht,hn⟩:=HR.o.put18 h6 l16 l17;subst e5;unfold Ec at u16;unfold Ka at hn;rw[if_pos cr];refine wp_store_mid 68 _ _ rfl B 0 ([.int .u8 (r.1.what.toNat:Int),.string ⟨r.1.text.toArray⟩,.int .i64 (r.1.tag:Int),.slice A5 n5 c5]:List Value).toArray u17 u16 ht aN bh ?_;exact lK
   rintro L U W hL hφ hR;clear hφ;obtain⟨B,A8,c8,u17,hB1,hBl9,hrg,hiv8,hg8,hc8,hf8⟩:=hR.fin (hL 16 aJ) (hL 17 aJ) (hL 18 aJ);simp only[u17];have HL9:=Aa ((HL1.o.after (Ao _ _).drew).one hg8 hc8 hf8);have HZ9:=Aa ((hg8.cell_far ⟨wr.heap.size,2,none⟩ (show wr.heap.size<W1.drew.heap.size from hzr) (by intro e;injection e with e;have e:wr.heap.size=w.heap.size+6:=e;have:=HL.o.st.bs;omega)).trans Z2.o);have hsz9:W1.heap.size<=W.heap.size:=hg8.size;have HX:=Aa hrg;have Hiv8:=Aa hiv8;clear hR hL u17 hrg hiv8 hg8 hc8 hf8;obtain⟨W9,rfl⟩:∃W9:World,W9=W:=⟨_,rfl⟩
   have Y0:=@Aa (W9.cell? ⟨B,0,none⟩=some (.int .u8 (r.1.what.toNat:Int))) (by simpa using Ab HX.o 0 rfl);have Y1:=@Aa (W9.cell? ⟨B,1,none⟩=some (.string ⟨r.1.text.toArray⟩)) (by simpa using Ab HX.o 1 rfl);have Y2:=@Aa (W9.cell? ⟨B,2,none⟩=some (.int .i64 (r.1.tag:Int))) (by simpa using Ab HX.o 2 rfl);have Y3:=@Aa (W9.cell? ⟨B,3,none⟩=some (.slice A8 r.1.kids.length c8)) (by simpa using Ab HX.o 3 rfl);go_upto_region 25 with fail
   refine Jd [136,137,138,139,140,141,142,143,144]
    (fun ix v W=>match ix with|0=>v=.agg #[.int .u8 (r.1.what.toNat:Int),.string ⟨r.1.text.toArray⟩,.int .i64 (r.1.tag:Int),.slice A8 r.1.kids.length c8]|1=>v=.string ⟨pv.toArray⟩|2=>v=.pointer (some ⟨eb,0,none⟩)|3=>v=.pointer (some ⟨eb,0,none⟩)|4=>v=.pointer (some ⟨eb,0,none⟩)|5=>v=.pointer (some ⟨pb1,0,none⟩)|6=>v=.pointer (some ⟨fb,fo,none⟩)|7=>v=.string ⟨ov.toArray⟩|8=>v=.bool (pv == ov)|_=>True)
    (fun L U W=>Below W9.heap.size W9.drew W) (Ao _ _) ?_ ?_
   ·repeat (first|exact Ak.nil|(refine Ak.cons ?_ ?_;rotate_left))
    all_goals
     rintro L U W hL hpre HR Hdep K hK;have hb9:Below W9.heap.size W9 W:=(Ao _ _).drew.trans HR.o;have hL9:=HL9.o.after hb9;have hbw:=hL9.bel;first|(simp[Region.binds]at hpre;done)|simp[Region.binds]at hpre|clear hpre
    ·have y0:=(hb9.cell (p:=⟨B,0,none⟩) hBl9).trans Y0.o;have y1:=(hb9.cell (p:=⟨B,1,none⟩) hBl9).trans Y1.o;have y2:=(hb9.cell (p:=⟨B,2,none⟩) hBl9).trans Y2.o;have y3:=(hb9.cell (p:=⟨B,3,none⟩) hBl9).trans Y3.o;exact kL
    ·go_simp;refine(HPr.o _ _ _ (Hiv8.o.after hb9)).mono ?_;rintro e w5 ⟨rfl,hb5⟩;exact m8
    ·have g4:=(hL9.keep.cell (p:=⟨w.heap.size,0,none⟩) (show w.heap.size<w.heap.size+5 by omega)).trans HH.o.e0;exact kL
    iterate 2
     ·exact hD
    ·have g0:=(hbw.cell (p:=⟨eb,0,none⟩) HLk.o.le).trans HLk.o.e0;exact kL
    ·exact hD
    ·go_simp;refine(HOf.o _ _ _ hbw hfl Hfr.o).mono ?_;rintro e w5 ⟨rfl,hb5⟩;exact m8
    ·exact hD
   rintro L U W hL hφ hR;have e8:U 8=.bool (pv == ov):=hφ 8 aJ;simp only[e8];clear hφ;have hb9:Below W9.heap.size W9 W:=(Ao _ _).drew.trans hR;have HLa:=Aa (HL9.o.after hb9);have Hiva:=Aa (Hiv8.o.after hb9);have y0:=(hb9.cell (p:=⟨B,0,none⟩) hBl9).trans Y0.o;have y1:=(hb9.cell (p:=⟨B,1,none⟩) hBl9).trans Y1.o;have y2:=(hb9.cell (p:=⟨B,2,none⟩) hBl9).trans Y2.o;have y3:=(hb9.cell (p:=⟨B,3,none⟩) hBl9).trans Y3.o;have z2:W.cell? ⟨wr.heap.size,2,none⟩=some (.int .i64 (tg:Int)):=(hb9.cell (p:=⟨wr.heap.size,2,none⟩) (show wr.heap.size<W9.heap.size by omega)).trans HZ9.o;have hBW:=ac hBl9 hb9.size;have hbW1:W1.heap.size<=W.heap.size:=ad hsz9 hb9.size;clear hR hL hb9 Hiv8 HL9 Y0 Y1 Y2 Y3 HX;obtain⟨Wa,rfl⟩:∃Wa:World,Wa=W:=⟨_,rfl⟩
   rcases Hwy.o with⟨hpe,ho⟩|⟨hpe,ho⟩
   ·have tq:(pv == ov)=true:=by simpa using hpe
    have q6:=HLa.o.c6;have q7:=HLa.o.f6;have q8:w.heap.size+6<Wa.heap.size:=HLa.o.st.bs;have Ho:=Aa ho;clear hpe ho y0 y1 y2 y3;rw[tq];clear tq;go_wp2_with fail;have HLn:=Aa (HLa.o.one (l':=true) (Am Wa (w.heap.size+6) 0 (.bool true)) (by simp[go_sem,q6,q7]) (by simp[go_sem,q7]));go_roundw
    case rel=>exact⟨i+1,A,c,true,xs,by go_num,by omega,eO,fP,hxl,HLn.o⟩
    case measure=>simp[intOf];omega
   have tq:(pv == ov)=false:=by simpa using hpe
   have Ho:=Aa ho;clear hpe ho;rw[tq];clear tq;have hxl1:xs.length+1<=1000:=by
    have h1:=Hsm1.o;rw[List.flatMap_append,<-Hxs.o,Ho.o]at h1;simp at h1;omega
   have x3:=HLa.o.st.c3;obtain⟨Wb,hWb⟩:∃Wb,Wb=Wa.alloc (.cells #[.int .u8 (r.1.what.toNat:Int),.string ⟨r.1.text.toArray⟩,.int .i64 (r.1.tag:Int),.slice A8 r.1.kids.length c8] 68):=⟨_,rfl⟩
   have hbb:Below Wa.heap.size Wa Wb:=by rw[hWb];exact(Ao _ _).alloc (An _) _
   have HLb:=Aa (HLa.o.after hbb);have Hone:=@Aa (Ea (fun c=>W1.heap.size<=c) Wb (.slice (some ⟨Wa.heap.size,0,none⟩) 1 1) [r.1]) (by rw[hWb];exact Ea.one Hiva.o (fun b h _=>h) hbW1);have HWb:=Aa hWb;clear hWb hbb;go_wp2_with (at_builtin;rw[<-HWb.o];refine Ph Wb rfl _ _ 66 rfl (w.heap.size+7) 68 (.agg #[.int .u8 0,.string ⟨#[]⟩,.int .i64 0,.slice none 0 0]) 4 56 underlying66 Ya rfl aJ (Ka (.mk 61 [] tg [r.1],.slice (some ⟨Wa.heap.size,0,none⟩) 1 1)) rfl (Ye _ rfl) (.slice A xs.length c) xs.length (xs.flatMap Ka) rfl (by rw[show Wb.heap.size=Wa.heap.size+1 from by rw[HWb.o];simp];rfl) HLb.o.st.row aU aH HLb.o.st.bs ?_;intro v7 w9 hown9 hg9 hwh9;obtain⟨hq,A6,c6,rfl⟩:=M8.put10 (W1:=W1) (r:=(.mk 61 [] tg [r.1],r.2)) (l8:=true) (l9:=true) (l12:=false) (u8:=undef) (u9:=undef) HLb.o HL1.o Hone.o rfl rfl rfl hown9 hg9 hwh9;have Hq:=Aa hq;obtain⟨_,_,_,_,hK9,_⟩:=hq.s3 rfl rfl;have z3:=hK9.c3;have zf:=hK9.bk.live 3;have zl:=hK9.lt;clear hown9 hg9 hwh9 hq hK9)
   obtain⟨sl9,A7,c7,hLn⟩:=(Hq.o.put12 rfl rfl rfl rfl rfl).s4 rfl;have HLn:=Aa hLn;go_roundw
   case rel=>exact⟨i+1,A7,c7,l || r.2,xs++[(.mk 61 [] tg [r.1],sl9)],by go_num,by omega,(by show List.map _ _=_;rw[Htk.o,List.flatMap_append,az,Hxs.o,Ho.o];simp),(by show _=_;rw[Htk.o,List.any_append,Ho.o,<-Hl.o];simp),by simp;omega,by rw[ah];exact HLn.o⟩
   case measure=>simp[intOf];omega
  ·obtain rfl:i=ps.length:=aH;have i1:¬((ps.length:Int)<(ps.length:Int)):=aH;have hoa:outs.take ps.length=outs:=by rw[<-Hol.o,List.take_length]
   rw[hoa]at Hxs Hl;clear hoa;go_wp2_with fail;have HL9:=Aa (HL.o.after (Ao _ _).drew);have HT:=Aa (Aj HH.o.T (show w.heap.size+4<w.heap.size+5 by omega) HL9.o.keep.drew);refine Jd [156,157,999,9]
    (fun ix v W=>match ix with|0=>v=.agg #[.int .u8 (vv.what.toNat:Int),.string ⟨vv.text.toArray⟩,.int .i64 (vv.tag:Int),.slice A xs.length c]|1=>v=.bool l|3=>v=.bool l|_=>True)
    (fun L U W=>(L 2=false->W=wr.drew)/\(L 2=true->W=wr.drew.setCells (w.heap.size+4) 0 [.int .u8 (vv.what.toNat:Int),.string ⟨vv.text.toArray⟩,.int .i64 (vv.tag:Int),.slice A xs.length c])) (⟨fun _=>rfl,fun h=>Bool.noConfusion h⟩) ?_ ?_
   ·repeat (first|exact Ak.nil|(refine Ak.cons ?_ ?_;rotate_left))
    all_goals
     rintro L U W hL hpre HR Hdep K hK;first|(simp[Region.binds]at hpre;done)|simp[Region.binds]at hpre|clear hpre
    ·have h2:L 2=false:=Bb Hdep.o 2 0 rfl hL;have hW:=HR.o.1 h2;subst hW;have x0:=HL9.o.st.c0;have x1:=HL9.o.st.c1;have x2:=HL9.o.st.c2;have x3:=HL9.o.st.c3;exact kL
    ·have x6:W.cell? ⟨w.heap.size+6,0,none⟩=some (.bool l):=by
      cases e2:L 2 with
      |false=>rw[HR.o.1 e2];exact HL9.o.c6
      |true=>
       rw[HR.o.2 e2,(Br (w.heap.size+4) _ 0 _).cell_far ⟨w.heap.size+6,0,none⟩ (by simp;exact HL9.o.st.bs) aK];exact HL9.o.c6
     exact kL
    ·have hW:=HR.o.1 hL;subst hW;have u0:U 0=.agg #[.int .u8 (vv.what.toNat:Int),.string ⟨vv.text.toArray⟩,.int .i64 (vv.tag:Int),.slice A xs.length c]:=cH;rw[if_pos cr];refine wp_store_mid 68 _ _ rfl (w.heap.size+4) 0 ([.int .u8 (vv.what.toNat:Int),.string ⟨vv.text.toArray⟩,.int .i64 (vv.tag:Int),.slice A xs.length c]:List Value).toArray rfl u0 HT.o aN bh ?_;exact lY
    ·exact hD
   rintro L U W hL hφ hR;have hW:=hR.2 (hL 2 aJ);have u3:U 3=.bool l:=hφ 3 aJ;simp only[u3];clear hR hL hφ u3;subst hW;go_wp2_with fail;refine aF (v:=.tuple #[.agg ([.int .u8 (vv.what.toNat:Int),.string ⟨vv.text.toArray⟩,.int .i64 (vv.tag:Int),.slice A xs.length c]:List Value).toArray,.bool l]) ?_ rfl ?_
   ·exact As results115 _ _ (w.heap.size+4) [.int .u8 (vv.what.toNat:Int),.string ⟨vv.text.toArray⟩,.int .i64 (vv.tag:Int),.slice A xs.length c] _ _ rfl rfl (aa _ _ _ _ HT.o) underlying68 rfl aN
   refine⟨.slice A xs.length c,by rw[Hl.o];rfl,?_,Ai _ aH _ _ _ HL9.o.bel⟩;have h2:=(HL9.o.st.done aH).grown (Br (w.heap.size+4) [.int .u8 (vv.what.toNat:Int),.string ⟨vv.text.toArray⟩,.int .i64 (vv.tag:Int),.slice A xs.length c] 0 _) (fun c hc e=>by injection e with e;omega);rw[show Bc xs=outs.flatMap (·.1)from Hxs.o]at h2;exact h2.mono fun c hc _=>aH
end
end Go.Proofs.YtmmhmlmfhpfgbaaGreatDoor
