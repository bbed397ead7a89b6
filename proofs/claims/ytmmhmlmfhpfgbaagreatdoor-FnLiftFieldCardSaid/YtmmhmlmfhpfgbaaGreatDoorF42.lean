/- Texts joined. Conditions: as each theorem names them. -/
import Derived.Test.YtmmhmlmfhpfgbaaGreatDoorF41
set_option maxRecDepth 100000
set_option maxHeartbeats 32000000
set_option linter.unusedVariables false
set_option linter.unusedSimpArgs false
namespace Go.Proofs.YtmmhmlmfhpfgbaaGreatDoor
open Go.RowKit Go.Proofs.Tryz
section
attribute [local go_sem] Qoe Qnf Qmu Qk2 ByteArray.mk_append_mk
theorem Qj7(P:Nat->Prop)(w:World)(eb:Nat)(a b:Kd)(hs:a.signs=[])(hb:a.base=[64])(vv x:Vl)(hw85:vv.what=85)(hk:vv.kids=[x])(A2:Option Addr)(c2:Nat)(hiv:Ea P w (.slice A2 1 c2) [x])(xp yp:PT)(pb1 mb1 pb2 mb2:Nat)(hlk:LkT w eb a.name b.name xp.blk yp.blk pb1 mb1 pb2 mb2)
  (hxp:P8 w xp) (hyp:P8 w yp) (f g:Fd) (htag:vv.tag<=1000000000) (hf:Au xp.ty.fields vv.tag=some f) (hg:Au yp.ty.fields vv.tag=some g) (r:Vl × Bool)
  (HC0:∀W A n c,Below w.heap.size w W->Ea P W (.slice A n c) x.kids->Calls prog 115 #[.pointer (some ⟨eb,0,none⟩),D9 f.kind,D9 g.kind,Ec x (.slice A n c)] W (Mu r W)):
  Calls prog 115 #[.pointer (some ⟨eb,0,none⟩),D9 a,D9 b,Ec vv (.slice A2 1 c2)] w (Mu (.mk vv.what vv.text vv.tag [r.1],r.2) w):=by
 obtain⟨n2,hn2⟩:∃n2,n2=1:=⟨_,rfl⟩
 have Hs:=Aa hs;have Hb:=Aa hb;have HLk:=Aa hlk;have T85:=@Aa (((vv.what.toNat:Int) == 85)=true) (by rw[hw85];rfl);obtain⟨fb,fo,hfl,hfr,hfc⟩:=Xy w xp hxp vv.tag htag f hf;obtain⟨gb,go,hgl,hgr,hgc⟩:=Xy w yp hyp vv.tag htag g hg;have Hfr:=Aa hfr;have Hfc:=Aa hfc;have Hgr:=Aa hgr;have Hgc:=Aa hgc;obtain⟨A',c',ks,hv,hkk,hl,hr,hP,hks⟩:=hiv;injection hv with hv1 hv2 hv3;subst hv1 hv3;obtain⟨⟨x',sx⟩,rfl⟩:=List.length_eq_one_iff.1 hv2.symm;clear hv2;have hx0:x'=x:=by simp[Bc]at hkk;exact hkk.symm
 subst hx0;have hsx:=hks _ (aq.2 rfl);obtain⟨B2,o3,rfl,hBl,x0,x1,x2,x3⟩:=Ea.at_ (i:=0) hr aK;simp only[Nat.zero_mul,Nat.add_zero,List.getElem_cons_zero]at x0 x1 x2 x3 hsx;obtain⟨A9,c9,rfl⟩:=hsx.form;have X0:=Aa x0;have X1:=Aa x1;have X2:=Aa x2;have X3:=Aa x3;have Hsx:=Aa hsx;have HC9:=Aa HC0;clear HC0;clear hs hb hk hlk hw85 hf hg hfr hfc hgr hgc hkk hl hr hP hks hxp hyp x0 x1 x2 x3 hsx;obtain⟨W7,hW7⟩:∃W7,W7=(((((((w.alloc (.cells #[.pointer (some ⟨eb,0,none⟩)] 160)).alloc (.cells #[.string ⟨a.signs.toArray⟩,.string ⟨a.base.toArray⟩,.string ⟨a.name.toArray⟩] 60)).alloc (.cells #[.string ⟨b.signs.toArray⟩,.string ⟨b.base.toArray⟩,.string ⟨b.name.toArray⟩] 60)).alloc (.cells #[.int .u8 (vv.what.toNat:Int),.string ⟨vv.text.toArray⟩,.int .i64 (vv.tag:Int),.slice (some ⟨B2,o3,none⟩) n2 c2] 68)).alloc (.cells #[.int .u8 0,.string ⟨#[]⟩,.int .i64 0,.slice none 0 0] 68)).alloc (.cells #[.int .u8 (vv.what.toNat:Int),.string ⟨vv.text.toArray⟩,.int .i64 (vv.tag:Int),.slice none 0 0] 68)).alloc (.cells #[.bool false] 4)):=⟨_,rfl⟩
 have HH:=Aa (X7 w W7 eb a b vv (some ⟨B2,o3,none⟩) n2 c2 hW7);unfold D9 Ec;go_enter func115,ntmps115;go_upto_region 4 with fail
 subst hn2;rw[<-hW7];clear hW7;have e1:=HH.o.a0;have e2:=HH.o.a1;have t1:a.signs.isEmpty=true:=gc;rw[Hs.o]at e1;rw[Hb.o]at e2;have hbw:=HH.o.st.bel
 have HC:=Aa (show Calls prog 169 #[D9 f.kind,D9 g.kind,Ec x' (.slice A9 x'.kids.length c9),.pointer (some ⟨w.heap.size,0,none⟩),.pointer (some ⟨w.heap.size+6,0,none⟩)] W7.drew.drew (Qbq r false (w.heap.size+6) W7.drew.drew)from by
  have hL:=HH.o.st.after ((Ao W7.heap.size W7).drew.drew);exact Qfh W7.drew.drew eb w.heap.size (w.heap.size+6) (by have:=HH.o.sz;simp;omega) (by have:=HH.o.sz;simp;omega) HH.o.e0 false hL.c6 hL.f6 f.kind g.kind x' A9 _ c9 r fun W' hW'=>HC9.o W' A9 _ c9 (hL.bel.trans (hW'.mono hL.bel.size)) (Hsx.o.after (hL.bel.trans (hW'.mono hL.bel.size))))
 unfold D9 Ec at HC;have hz7:=HH.o.sz;go_upto_region 13 with fail
 refine Jd [58,59,60,61,62,63,64,65,66,67,68,69,70,71,72,73,74,75,76,77,15,16]
  (fun ix v W=>match ix with|0=>v=.pointer (some ⟨eb,0,none⟩)|1=>v=.pointer (some ⟨eb,0,none⟩)|2=>v=.pointer (some ⟨eb,0,none⟩)|3=>v=.pointer (some ⟨pb1,0,none⟩)|4=>v=.pointer (some ⟨pb1,0,none⟩)|5=>v=.pointer (some ⟨pb1,1,none⟩)|6=>v=.map (some mb1)|7=>v=.pointer (some ⟨w.heap.size+1,2,none⟩)|8=>v=.string ⟨a.name.toArray⟩|9=>v=.pointer (some ⟨xp.blk,0,none⟩)|10=>v=.pointer (some ⟨eb,0,none⟩)|11=>v=.pointer (some ⟨eb,0,none⟩)|12=>v=.pointer (some ⟨eb,1,none⟩)|13=>v=.pointer (some ⟨pb2,0,none⟩)|14=>v=.pointer (some ⟨pb2,0,none⟩)|15=>v=.pointer (some ⟨pb2,1,none⟩)|16=>v=.map (some mb2)|17=>v=.pointer (some ⟨w.heap.size+2,2,none⟩)|18=>v=.string ⟨b.name.toArray⟩|19=>v=.pointer (some ⟨yp.blk,0,none⟩)|20=>v=.pointer (some ⟨xp.blk,0,none⟩)|21=>v=.pointer (some ⟨yp.blk,0,none⟩)|_=>True)
  (fun L U W=>W=W7.drew) (rfl) ?_ ?_
 ·exact ia
 rintro L U W hL hφ hR;have e20:U 20=.pointer (some ⟨xp.blk,0,none⟩):=hφ 20 aJ;have e21:U 21=.pointer (some ⟨yp.blk,0,none⟩):=hφ 21 aJ;simp only[e20,e21];clear hφ;subst hR;clear hL;have e5:=HH.o.v0;have t85:=T85.o;go_upto_region 16 with fail
 clear t85;refine Jd [82,83,84,85,86,87,88,89,90,91,92,93,94,95,96,97,98,99,100,101,102,103,999]
  (fun ix v W=>match ix with|0=>v=.func (.func 169) #[] #[.pointer (some ⟨w.heap.size,0,none⟩),.pointer (some ⟨w.heap.size+6,0,none⟩)]|1=>v=.pointer (some ⟨xp.blk,0,none⟩)|2=>v=.pointer (some ⟨w.heap.size+3,2,none⟩)|3=>v=.int .i64 (vv.tag:Int)|4=>v=.pointer (some ⟨fb,fo,none⟩)|5=>v=.pointer (some ⟨fb,fo,none⟩)|6=>v=.pointer (some ⟨fb,fo+2,none⟩)|7=>v=.agg #[.string ⟨f.kind.signs.toArray⟩,.string ⟨f.kind.base.toArray⟩,.string ⟨f.kind.name.toArray⟩]|8=>v=.pointer (some ⟨yp.blk,0,none⟩)|9=>v=.pointer (some ⟨w.heap.size+3,2,none⟩)|10=>v=.int .i64 (vv.tag:Int)|11=>v=.pointer (some ⟨gb,go,none⟩)|12=>v=.pointer (some ⟨gb,go,none⟩)|13=>v=.pointer (some ⟨gb,go+2,none⟩)|14=>v=.agg #[.string ⟨g.kind.signs.toArray⟩,.string ⟨g.kind.base.toArray⟩,.string ⟨g.kind.name.toArray⟩]|15=>v=.pointer (some ⟨w.heap.size+3,3,none⟩)|16=>v=.slice (some ⟨B2,o3,none⟩) 1 c2|17=>v=.pointer (some ⟨B2,o3,none⟩)|18=>v=.agg #[.int .u8 (x'.what.toNat:Int),.string ⟨x'.text.toArray⟩,.int .i64 (x'.tag:Int),.slice A9 x'.kids.length c9]|21=>v=.pointer (some ⟨w.heap.size+5,3,none⟩)|_=>True)
  (fun L U W=>Vc w W7 W7.drew.drew (.int .u8 (vv.what.toNat:Int)) (.string ⟨vv.text.toArray⟩) (.int .i64 (vv.tag:Int)) r (L 19) (L 20) (L 22) (U 19) (U 20) W) (Vc.start) ?_ ?_
 ·repeat (first|exact Ak.nil|(refine Ak.cons ?_ ?_;rotate_left))
  all_goals
   rintro L U W hL hpre HR Hdep K hK;first|(simp[Region.binds]at hpre;done)|simp[Region.binds]at hpre|clear hpre
  iterate 3
   ·exact hD
  ·have h19:L 19=false:=(Bb Hdep.o 19 7 rfl (Bb Hdep.o 7 6 rfl (Bb Hdep.o 6 5 rfl (Bb Hdep.o 5 4 rfl (Bb Hdep.o 4 3 rfl hL)))))
   exact lZ
  ·have h19:L 19=false:=(Bb Hdep.o 19 7 rfl (Bb Hdep.o 7 6 rfl (Bb Hdep.o 6 5 rfl (Bb Hdep.o 5 4 rfl hL))))
   have hW:=HR.o.s0 h19;subst hW;go_simp;refine(Hfc.o _ (hbw.drew.drew)).mono ?_;rintro e w5 ⟨rfl,rfl⟩;exact kJ
  iterate 2
   ·exact hD
  ·have h19:L 19=false:=(Bb Hdep.o 19 7 rfl hL)
   have hW:=HR.o.s0 h19;subst hW;exact m6
  iterate 2
   ·exact hD
  ·have h19:L 19=false:=(Bb Hdep.o 19 14 rfl (Bb Hdep.o 14 13 rfl (Bb Hdep.o 13 12 rfl (Bb Hdep.o 12 11 rfl (Bb Hdep.o 11 10 rfl hL)))))
   exact lZ
  ·have h19:L 19=false:=(Bb Hdep.o 19 14 rfl (Bb Hdep.o 14 13 rfl (Bb Hdep.o 13 12 rfl (Bb Hdep.o 12 11 rfl hL))))
   have hW:=HR.o.s0 h19;subst hW;go_simp;refine(Hgc.o _ (hbw.drew.drew)).mono ?_;rintro e w5 ⟨rfl,rfl⟩;exact kJ
  iterate 2
   ·exact hD
  ·have h19:L 19=false:=(Bb Hdep.o 19 14 rfl hL)
   have hW:=HR.o.s0 h19;subst hW;exact m7
  ·exact hD
  ·have h19:L 19=false:=(Bb Hdep.o 19 18 rfl (Bb Hdep.o 18 17 rfl (Bb Hdep.o 17 16 rfl hL)))
   have hW:=HR.o.s0 h19;subst hW;have x0:=HH.o.v3;exact kL
  ·exact hD
  ·have h19:L 19=false:=(Bb Hdep.o 19 18 rfl hL)
   have hW:=HR.o.s0 h19;subst hW;have y0:=(hbw.cell (p:=⟨B2,o3,none⟩) hBl).trans X0.o;have y1:=(hbw.cell (p:=⟨B2,o3+1,none⟩) hBl).trans X1.o;have y2:=(hbw.cell (p:=⟨B2,o3+2,none⟩) hBl).trans X2.o;have y3:=(hbw.cell (p:=⟨B2,o3+3,none⟩) hBl).trans X3.o;exact kL
  ·have h20:L 20=false:=Bb Hdep.o 20 19 rfl hL;have h22:L 22=false:=Bb Hdep.o 22 20 rfl h20;have hW:=HR.o.s0 hL;subst hW;go_simp;refine HC.o.mono ?_;rintro e w5 ⟨sl5,rfl,hs5,hg5,hc5,hf5⟩;obtain⟨A5,c5,rfl⟩:=hs5.form;go_simp;exact hK (Ec r.1 (.slice A5 r.1.kids.length c5)) _ _ Ac Ac (Vc.put19 (HH.o.st.after ((Ao W7.heap.size W7).drew.drew)) h20 h22 hs5 hg5 hc5 hf5) eL
  ·have l19:L 19=true:=aL;have h22:L 22=false:=Bb Hdep.o 22 20 rfl hL;obtain⟨sl5,u19,⟨A5,n5,c5,e5⟩,hn⟩:=HR.o.put20 l19 hL h22;subst e5;unfold Ec at u19;unfold Ka at hn;simp only[u19];go_simp;exact hK _ _ _ Ac Ac hn (by simp[Act.put,hpre,u19])
  ·exact hD
  ·have l20:L 20=true:=bB;have l19:L 19=true:=Np (Bb Hdep.o 20 19 rfl) l20;obtain⟨W8,sl5,hW,u20,hs8,hL8⟩:=HR.o.s2 l20 hL;have hLa:=hL8.after ((Ao W8.heap.size W8).alloc (An _) (.cells (Ka (r.1,sl5)).toArray 68));rw[<-hW]at hLa;clear hW;have x3:=hLa.st.c3;have x4:=hLa.st.bk.live 3;have x5:=hLa.st.lt;go_simp;exact hK undef _ _ Ac Ac (HR.o.put22 aM l19 l20 hL (by rw[u20])) (by simp[Act.put,hpre,u20])
 rintro L U W hL hφ hR;clear hφ;obtain⟨g8,sl8,hL8⟩:=hR.s3 (hL 22 aJ);have HL8:=Aa hL8;clear hR hL hL8;obtain⟨W8,rfl⟩:∃W8:World,W8=W:=⟨_,rfl⟩
 go_wp2_with fail;have HL:=Aa (HL8.o.after (Ao _ _).drew);have HT:=Aa (Aj HH.o.T (show w.heap.size+4<w.heap.size+5 by omega) HL.o.keep);refine Jd [156,157,999,9]
  (fun ix v W=>match ix with|0=>v=.agg #[.int .u8 (vv.what.toNat:Int),.string ⟨vv.text.toArray⟩,.int .i64 (vv.tag:Int),.slice (some ⟨g8,0,none⟩) 1 1]|1=>v=.bool r.2|3=>v=.bool r.2|_=>True)
  (fun L U W=>(L 2=false->W=W8.drew)/\(L 2=true->W=W8.drew.setCells (w.heap.size+4) 0 [.int .u8 (vv.what.toNat:Int),.string ⟨vv.text.toArray⟩,.int .i64 (vv.tag:Int),.slice (some ⟨g8,0,none⟩) 1 1])) (⟨fun _=>rfl,fun h=>Bool.noConfusion h⟩) ?_ ?_
 ·repeat (first|exact Ak.nil|(refine Ak.cons ?_ ?_;rotate_left))
  all_goals
   rintro L U W hL hpre HR Hdep K hK;first|(simp[Region.binds]at hpre;done)|simp[Region.binds]at hpre|clear hpre
  ·exact iz
  ·have x6:W.cell? ⟨w.heap.size+6,0,none⟩=some (.bool r.2):=by
    cases e2:L 2 with
    |false=>rw[HR.o.1 e2];exact HL.o.c6
    |true=>
     exact lX
   exact kL
  ·have hW:=HR.o.1 hL;subst hW;have u0:U 0=.agg #[.int .u8 (vv.what.toNat:Int),.string ⟨vv.text.toArray⟩,.int .i64 (vv.tag:Int),.slice (some ⟨g8,0,none⟩) 1 1]:=cH;rw[if_pos cr];refine wp_store_mid 68 _ _ rfl (w.heap.size+4) 0 ([.int .u8 (vv.what.toNat:Int),.string ⟨vv.text.toArray⟩,.int .i64 (vv.tag:Int),.slice (some ⟨g8,0,none⟩) 1 1]:List Value).toArray rfl u0 HT.o aN bh ?_;exact lY
  ·exact hD
 rintro L U W hL hφ hR;have hW:=hR.2 (hL 2 aJ);have u3:U 3=.bool r.2:=hφ 3 aJ;simp only[u3];clear hR hL hφ u3;subst hW;go_wp2_with fail;refine aF (v:=.tuple #[.agg ([.int .u8 (vv.what.toNat:Int),.string ⟨vv.text.toArray⟩,.int .i64 (vv.tag:Int),.slice (some ⟨g8,0,none⟩) 1 1]:List Value).toArray,.bool r.2]) ?_ rfl ?_
 ·exact As results115 _ _ (w.heap.size+4) [.int .u8 (vv.what.toNat:Int),.string ⟨vv.text.toArray⟩,.int .i64 (vv.tag:Int),.slice (some ⟨g8,0,none⟩) 1 1] _ _ rfl rfl (aa _ _ _ _ HT.o) underlying68 rfl aN
 refine⟨.slice (some ⟨g8,0,none⟩) 1 1,rfl,?_,Ai _ aH _ _ _ HL.o.bel⟩;have h2:=(HL.o.st.done aK).grown (Br (w.heap.size+4) [.int .u8 (vv.what.toNat:Int),.string ⟨vv.text.toArray⟩,.int .i64 (vv.tag:Int),.slice (some ⟨g8,0,none⟩) 1 1] 0 _) (fun c hc e=>by injection e with e;omega);exact h2.mono fun c hc _=>aH
theorem Qc3{w w':World}{row:Option Nat}{b o n:Nat}(h:w.there b o n)(hg:w.grownBy w' row)(hb:b<w.heap.size)(hne:some b≠row):w'.there b o n:=fun j hj=>by
 obtain⟨h1,h2⟩:=h j hj;exact⟨by rw[hg.cell_far ⟨b,o+j,none⟩ hb hne];exact h1,by rw[hg.frozen_far ⟨b,o+j,none⟩ hb hne];exact h2⟩
structure Ss(W1:World)(B11:Nat)(l:Bool)(r:Vl × Bool)(l16 l17 l18:Bool)(u16 u17:Value)(W:World):Prop where
 s0:l16=false->Below W1 W1 W
 s1:l16=true->∃sl,u16=Ec r.1 sl/\Ea (fun c=>W1.heap.size<=c/\(l17=true->u17≠c)) W sl r.1.kids/\W1.grownBy W (some B11)/\W.cell? (B11,0)=some (.bool (l || r.2))/\W.frozen? (B11,0)=false
 al:l17=true->∃B,u17=.pointer (some ⟨B,0,none⟩)/\W1.heap.size<=B/\B<W.heap.size/\W.there B 0 4/\(l18=true->∃sl,u16=Ec r.1 sl/\W.rangeAt B 0 (Ka (r.1,sl)))
section
variable {W1 W W':World} {B11:Nat} {l l16 l17 l18:Bool} {r:Vl × Bool} {u16 u17:Value}
theorem Ss.start:Ss W1 B11 l r false false l18 u16 u17 W1:=⟨fun _=>Ao _ _,fun h=>Bool.noConfusion h,fun h=>Bool.noConfusion h⟩
theorem Ss.put16(h:Ss W1 B11 l r l16 l17 l18 u16 u17 W)(h16:l16=false)(h18:l18=false)(h11:B11<W1.heap.size){sl:Value}(hs:Ea (fun c=>W.heap.size<=c) W' sl r.1.kids)(hg:W.grownBy W' (some B11))(hc:W'.cell? (B11,0)=some (.bool (l || r.2)))(hf:W'.frozen? (B11,0)=false):
  Ss W1 B11 l r true l17 l18 (Ec r.1 sl) u17 W':=by
 have hb:=h.s0 h16;subst h18;refine⟨fun h=>Bool.noConfusion h,fun _=>⟨sl,rfl,hs.mono fun c hc _=>⟨ad hb.size hc,fun h17 e=>?_⟩,J8 (Ci hb _) hg,hc,hf⟩,fun h17=>?_⟩
 ·obtain⟨B,e1,_,h2,_⟩:=h.al h17;rw[e1]at e;injection e with e;injection e with e;injection e with e;have:W.heap.size<=c:=hc;omega
 obtain⟨B,e1,h1,h2,h3,_⟩:=h.al h17;exact⟨B,e1,h1,ac h2 hg.size,Qc3 h3 hg h2 bW,fun h=>Bool.noConfusion h⟩
theorem Ss.put17(h:Ss W1 B11 l r l16 l17 l18 u16 u17 W)(h18:l18=false)(h17:l17=false)(T:TypeId):Ss W1 B11 l r l16 true l18 u16 W.heap.size (W.alloc (.cells #[.int .u8 0,a6,.int .i64 0,.slice none 0 0] T)):=by
 have hb:=(Ao W.heap.size W).alloc (An _) (.cells #[.int .u8 0,a6,.int .i64 0,.slice none 0 0] T);refine⟨fun h16=>(h.s0 h16).trans (hb.mono (h.s0 h16).size),fun h16=>?_,fun _=>⟨_,rfl,?_,by simp,Bz W [.int .u8 0,a6,.int .i64 0,.slice none 0 0] T,fun h=>absurd (h18.symm.trans h) aJ⟩⟩
 ·obtain⟨sl,e,hs,hg,hc,hf⟩:=h.s1 h16;have hB:B11<W.heap.size:=World.block_lt_of_cell? W _ hc;refine⟨sl,e,(hs.mono (Q:=fun c=>W1.heap.size<=c/\(true=true->(Value.pointer (W,0))≠c)) fun c hc hl=>⟨hc.1,fun _ e=>by injection e with e;injection e with e;injection e with e;omega⟩).after hb,J8 hg (Ci hb _),(hb.cell (p:=⟨B11,0,none⟩) hB).trans hc,(hb.frozen (p:=⟨B11,0,none⟩) hB).trans hf⟩
 cases e16:l16 with
 |false=>exact(h.s0 e16).size
 |true=>exact(h.s1 e16).choose_spec.2.2.1.size
theorem Ss.put18(h:Ss W1 B11 l r l16 l17 l18 u16 u17 W)(h11:B11<W1.heap.size)(h16:l16=true)(h17:l17=true):∃B sl,u17=.pointer (some ⟨B,0,none⟩)/\u16=Ec r.1 sl/\(∃A n c,sl=.slice A n c)/\W.there B 0 4/\Ss W1 B11 l r l16 l17 true u16 u17 (W.setCells B 0 (Ka (r.1,sl))):=by
 obtain⟨sl,e,hs,hg,hc,hf⟩:=h.s1 h16;obtain⟨B,eB,h1,h2,h3,_⟩:=h.al h17;have hB:B11<W.heap.size:=World.block_lt_of_cell? W _ hc;have hgs:=Br B (Ka (r.1,sl)) 0 W;refine⟨B,sl,eB,e,by obtain⟨A,c,e⟩:=hs.form;exact⟨A,_,c,e⟩,h3,fun h=>absurd (h16.symm.trans h) aJ,fun _=>⟨sl,e,hs.grown hgs fun c hc e=>?_,Vj hg h1 0,(hgs.cell_far ⟨B11,0,none⟩ hB aM).trans hc,(hgs.frozen_far ⟨B11,0,none⟩ hB aM).trans hf⟩,fun _=>⟨B,eB,h1,by rw[Ch];exact h2,ai h3 _ _ _,fun _=>⟨sl,e,aa _ _ _ _ h3⟩⟩⟩;injection e with e;subst e;exact hc.2 h17 eB
theorem Ss.fin(h:Ss W1 B11 l r l16 l17 l18 u16 u17 W)(h16:l16=true)(h17:l17=true)(h18:l18=true):∃B A c,u17=.pointer (some ⟨B,0,none⟩)/\W1.heap.size<=B/\B<W.heap.size/\W.rangeAt B 0 (Ka (r.1,.slice A r.1.kids.length c))/\Ea (fun c=>W1.heap.size<=c) W (.slice A r.1.kids.length c) r.1.kids/\W1.grownBy W (some B11)/\W.cell? (B11,0)=some (.bool (l || r.2))/\W.frozen? (B11,0)=false:=by
 obtain⟨sl,e,hs,hg,hc,hf⟩:=h.s1 h16;obtain⟨B,eB,h1,h2,_,h4⟩:=h.al h17;obtain⟨sl2,e2,h5⟩:=h4 h18;have e3:sl2=sl:=by
  rw[e]at e2;unfold Ec at e2;injection e2 with e2;simpa using e2.symm
 subst e3;obtain⟨A,c,rfl⟩:=hs.form;exact⟨B,A,c,eB,h1,h2,h5,hs.mono fun c hc _=>hc.1,hg,hc,hf⟩
end
end
end Go.Proofs.YtmmhmlmfhpfgbaaGreatDoor
