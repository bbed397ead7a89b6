/- Texts joined. Conditions: as each theorem names them. -/
import Derived.Lib.Builder
import Derived.Lib.AppendStr
import Derived.Lib.UnsafeStr
import Derived.Lib.MakeNoZero
import Derived.Laws.Externs
import Derived.Laws.BitsLemmas
import Derived.RegionTactic
import Derived.Laws.AppendOwnNone
import Derived.Test.YtpjijpcemejlnaaGreatDoorR23
set_option maxRecDepth 100000
set_option maxHeartbeats 32000000
set_option linter.unusedVariables false
set_option linter.unusedSimpArgs false
namespace Go.Proofs.YtpjijpcemejlnaaGreatDoor
open Go.RowKit Go.Proofs.Tryz
section
attribute [local go_sem] Qm0 Ql8 Qlz Qj6 ByteArray.mk_append_mk
theorem Qax{W W':World}{b o n:Nat}{r:Option Nat}(h:W.there b o n)(hb:b<W.heap.size)(hg:W.grownBy W' r)(hne:some b≠r):W'.there b o n:=fun j hj=>by
 obtain⟨h1,h2⟩:=h j hj;have e:=hg.block b hb hne;simp only[World.cell?,World.frozen?,e]at h1 h2 ⊢;exact⟨h1,h2⟩
theorem Pt(b:Nat):∀(vs:List Value) (o:Nat) (w:World),w.grownBy (w.setCells b o vs) (some b)
 |[],_,w=>World.grownBy.refl _ _
 |v::r,o,w=>Ad (Al w b o v) (Pt b r (o+1) _)
theorem D7.far{base B b:Nat}{W W':World}{h0 h1:Value}(h:D7 base B W h0 h1 (.slice none 0 0) (.slice none 0 0) (.slice none 0 0) (.slice none 0 0) [] [])(hg:W.grownBy W' (some b))(hb:b≠B:=by omega):D7 base B W' h0 h1 (.slice none 0 0) (.slice none 0 0) (.slice none 0 0) (.slice none 0 0) [] []:=by
 have hn:some B≠some b:=fun e=>hb (by injection e with e;exact e.symm);exact⟨ad h.lt hg.size,ae h.bs hg.size,h.hB,h.bk.grown h.lt hg hn,hg.cell h.c0 hn,hg.cell h.c1 hn,hg.cell h.c2 hn,hg.cell h.c3 hn,World.ownsRow_nil _ _ _ _,World.ownsRow_nil _ _ _ _,by simp⟩
theorem Qk4(xs:List (Ty × Value))(A0:Option Addr)(c0:Nat)(k:Kd)(hk:Cm k)(hsg:k.signs=[])(hbs:k.base=[64])(nm:List UInt8)(fs:List Fd)(A9:Option Addr)(c9:Nat)(hx:Ds xs k.name=some (⟨85,nm,fs⟩,.slice A9 fs.length c9))(htg:∀f∈fs,Au fs f.tag=some f)(h200:∀f∈fs,f.tag<=200)(hfk:∀f∈fs,(Bc f.kind).length<=20)(hn0:0<fs.length)(hn8:fs.length<=8)(d:Int)(hd:-1000<=d)(hd2:d<=1000)(N:Nat)(B:Nat)(HH:Tx xs (.slice A0 xs.length c0) (fs[0]).kind (d - 1) N B)(hdp:¬0<d):DtC xs (.slice A0 xs.length c0) k d (N+1) (B+100):=by
 intro g p w hsc hR hp;have hgl:=hR.lt;have HR:=Aa hR;have HSc:=Aa hsc
 have Hr:=Aa (show ∀W,Fu W (.slice A0 xs.length c0) xs->Calls prog 56 #[.slice A0 xs.length c0,.string ⟨(Bc k).toArray⟩] W fun e w'=>e=.returned (.tuple #[.agg #[.int .u8 85,nm,.slice A9 fs.length c9],.bool true])/\Below W W w' from fun W hW=>by
  have h:=E7 (.slice A0 xs.length c0) xs k W hW hk;rw[show Jw xs k=some (⟨85,nm,fs⟩,.slice A9 fs.length c9)from by unfold Jw;rw[if_pos ⟨hsg,hbs⟩];exact hx]at h;exact h)
 have HFd:=@Aa (∀W,Fu W (.slice A0 xs.length c0) xs->Dj W (.slice A9 fs.length c9) fs) (fun W hW=>by obtain⟨_,_,_,_,_,hf⟩:=hW;exact hf _ (Cp hx).1);have hft:=(Cp hx).2.2;have hkl:(Bc k).length<=100:=cm;have Hok:=Aa (fun f (hf:f∈fs) x (h:Gp (Ae xs) N f.kind x)=>Gp.uni (S:=Ae xs) hsg hbs hft rfl (htg f hf) h);have Hsv:=@Aa (∀f∈fs,∀x,By (Ae xs) k (.mk 85 [] f.tag [x])=.mk (Bc k) [85] [f.tag] [By (Ae xs) f.kind x]) (fun f hf x=>by rw[N3,E8 hft (htg f hf)]);unfold Tx at HH;have Hh2:=Aa h200;have Hfk:=Aa hfk;generalize Bc k=kb at *;obtain⟨xv,hxv⟩:∃xv:Value,xv=.slice A0 xs.length c0:=⟨_,rfl⟩
 rw[<-hxv]at HSc Hr HFd HH ⊢;have HH0:=Aa HH;clear HH hR hsc hk hsg hbs hx hft htg h200 hfk hxv;go_enter func118,ntmps118;go_wp2_with fail;refine(Hr.o _ HSc.o).mono ?_;rintro e w1 ⟨rfl,hb1⟩;have HR1:=Aa (HR.o.below hb1);have Hb1:=Aa hb1;have hz1:=hb1.size;clear hb1;have hcv:=fun W=>Kx W (w1.heap.size+1) 1 85;obtain⟨W3,hW3⟩:∃W3,W3=((w1.alloc (.cells #[.int .u8 85,nm,.slice A9 fs.length c9] 90)).alloc (.cells #[.int .u8 85] 5)).alloc (.cells #[kb,([85]:List UInt8),.slice none 0 0,.slice none 0 0] 87):=⟨_,rfl⟩
 have hz3:W3.heap.size=w1.heap.size+3:=gA;have b13:Below w1 w1 W3:=gY
 have HS3:=Aa (show D7 (w1.heap.size+3) (w1.heap.size+2) W3 kb ([85]:List UInt8) (.slice none 0 0) (.slice none 0 0) (.slice none 0 0) (.slice none 0 0) [] []from by
  have:=D7.new (W:=(w1.alloc (.cells #[.int .u8 85,nm,.slice A9 fs.length c9] 90)).alloc (.cells #[.int .u8 85] 5)) (T:=87) kb ([85]:List UInt8);rw[<-hW3]at this;simpa using this)
 have HR3:=Aa (HR1.o.below b13);have Hg3:=@Aa (w.grownBy W3 (some g)) (Ce (Hb1.o.trans (b13.mono Hb1.o.size)) _);have HX3:=@Aa (Fu W3 xv xs) (HSc.o.below (Hb1.o.trans (b13.mono Hb1.o.size)));have X2:=@Aa (W3.cell? (w1,2)=some (.slice A9 fs.length c9)) fR;have HF3:=Aa (HFd.o W3 HX3.o);have Hw3:=Aa hW3;clear hW3 b13 HR1;obtain⟨A5,cc5,e5,hl5,hr5⟩:=HFd.o w1 (HSc.o.below Hb1.o);injection e5 with e5 _ e6;subst e5 e6;obtain⟨b5,o5,rfl,hb5,x0,x1,x2,x3⟩:=Dj.at_ hr5 hn0;have Hf0:=Aa (af hn0);generalize fs[0]=f0 at x0 x1 x2 x3 Hf0 HH0;simp only[Nat.zero_mul,Nat.add_zero]at x0 x1 x2 x3;have nb0:¬(b5=w1.heap.size):=aI;have nb1:¬(b5=w1.heap.size+1):=aI;have nb2:¬(b5=w1.heap.size+1+1):=aI;have lb1:b5<w1.heap.size+1:=aI;have lb2:b5<w1.heap.size+1+1:=aI;have hn0i:(0:Int)<(fs.length:Int):=aI;go_upto_region 11 with fail
 rw[<-Hw3.o];clear hcv;obtain⟨W9,hW9⟩:∃W9,W9=W3.alloc (.cells #[(f0.tag:Int),f0.name,.string ⟨(Bc f0.kind).toArray⟩,f0.given] 94):=⟨_,rfl⟩
 rw[<-hW9];have b39:Below W3 W3 W9:=gO;have HS9:=Aa (HS3.o.after b39);have HR9:=Aa (HR3.o.below b39);have Hg9:=Aa (Ad Hg3.o (Ce b39 _));have LF9:=Aa (show w1.heap.size+3<W9.heap.size by rw[hW9];simp;omega);have RF9:=Aa (show W9.rangeAt (w1.heap.size+3) 0 (Ky f0)by rw[hW9,<-hz3];exact Br W3 (Ky f0) 94);clear hW9 b39 Hw3 x0 x1 x2 x3 HS3 HR3 Hg3;obtain⟨f,hf⟩:∃f,f=f0:=⟨_,rfl⟩
 subst hf;have Hf:=Hf0;have HCf:=HH0;have z0:=Ac RF9.o 0 rfl;have z2:=Ac RF9.o 2 rfl;simp only[ao]at z0 z2;have y2:=HS9.o.c2;have y2f:=HS9.o.bk.live 2;have ly:=HS9.o.lt;have lF:=LF9.o;have nBF:¬(w1.heap.size+3=w1.heap.size+2):=aI;have nB9:¬(w1.heap.size+2=W9.heap.size):=aI;have nF9:¬(w1.heap.size+3=W9.heap.size):=aI;have hwd:IntKind.i64.wrap (d - 1)=d - 1:=IntWalk.i64_in _ aI;have hE:(W9.setCell ⟨w1.heap.size+1+1,2,none⟩ (.slice (some ⟨W9.heap.size,0,none⟩) 1 1)).alloc (.cells #[(f.tag:Int)] 3)=(W9.alloc (.cells #[(f.tag:Int)] 3)).setCell ⟨w1.heap.size+2,2,none⟩ (.slice (some ⟨W9.heap.size,0,none⟩) 1 1):=by
  have ly2:w1.heap.size+1+1<W9.heap.size:=ly;show _=(W9.alloc (.cells #[(f.tag:Int)] 3)).setCell ⟨w1.heap.size+1+1,2,none⟩ (.slice (some ⟨W9.heap.size,0,none⟩) 1 1);go_simp
 have HE9:=Aa hE;clear hE;go_wp2_with fail;obtain⟨WC,hWC⟩:∃WC,WC=(W9.alloc (.cells #[(f.tag:Int)] 3)).setCell ⟨w1.heap.size+2,2,none⟩ (.slice (some ⟨W9.heap.size,0,none⟩) 1 1):=⟨_,rfl⟩
 have hzC:WC.heap.size=W9.heap.size+1:=by rw[hWC];simp
 have HSC:=@Aa (D7 (w1.heap.size+3) (w1.heap.size+2) WC kb ([85]:List UInt8) (.slice (some ⟨W9.heap.size,0,none⟩) 1 1) (.slice (some ⟨W9.heap.size,0,none⟩) 1 1) (.slice none 0 0) (.slice none 0 0) [f.tag] []) (by rw[hWC];exact HS9.o.putT f.tag);have HRC:=Aa (show Et WC g (p)by rw[hWC];exact(HR9.o.dalloc _).row (Al _ (w1.heap.size+2) 2 _) (base:=w1.heap.size+2) (fun k e=>by injection e with e;omega) aI);have HgC:=Aa (show w.grownBy WC (some g)by rw[hWC];exact Fq (Ad Hg9.o (World.grownBy_alloc W9 _ _)) (Al _ (w1.heap.size+2) 2 _) (base:=w1.heap.size+2) (fun k e=>by injection e with e;omega) aI);have HXC:=@Aa (Fu WC xv xs) (HSc.o.grown HR.o HgC.o);rw[HE9.o,<-hWC];clear hWC z0 z2 y2 y2f ly lF nBF nB9 nF9;refine(HCf.o g (p) WC HXC.o HRC.o aI).mono ?_;rintro e w5 ⟨b6,v6,q6,rfl,k1,k2,k3,k4,k5,k6⟩;have HS5:=Aa (HSC.o.gr k6 aI);have y3:=HS5.o.c3;have y3f:=HS5.o.bk.live 3;have ly5:=HS5.o.lt;have nB5:¬(w1.heap.size+2=w5.heap.size):=aI;have K1:=Aa k1;have K4:=Aa k4;have K5:=Aa k5;have Hg5:=Aa (Ad HgC.o k6);clear k1 k4 k5 k6;have hE:(w5.setCell ⟨w1.heap.size+1+1,3,none⟩ (.slice (w5,0) 1 1)).alloc (.cells #[b6] 53)=(w5.alloc (.cells #[b6] 53)).setCell ⟨w1.heap.size+2,3,none⟩ (.slice (w5,0) 1 1):=by
  have ly2:w1.heap.size+1+1<w5.heap.size:=ly5;show _=(w5.alloc (.cells #[b6] 53)).setCell ⟨w1.heap.size+1+1,3,none⟩ (.slice (w5,0) 1 1);go_simp
 have HE5:=Aa hE;clear hE;go_wp2_with fail;go_ret;rw[HE5.o];have lF9:=LF9.o;have hdl:=Db 2 f.tag (by have:=Hh2.o f Hf.o;omega);refine⟨w1.heap.size+2,.mk 85 [] f.tag [v6],q6,rfl,Hok.o f Hf.o v6 K1.o,by rw[Th];simp[Jn];omega,by omega,?_,(K5.o.dalloc _).row (Al _ (w1.heap.size+2) 3 _) (base:=w1.heap.size+2) (fun k e=>by injection e with e;omega) aI,Fq (Ad Hg5.o (World.grownBy_alloc w5 _ _)) (Al _ (w1.heap.size+2) 3 _) (base:=w1.heap.size+2) (fun k e=>by injection e with e;omega) aI⟩;exact mg
theorem Qkg(xs:List (Ty × Value))(A0:Option Addr)(c0:Nat)(k:Kd)(hk:Cm k)(hsg:k.signs=[])(hbs:k.base=[64])(nm:List UInt8)(fs:List Fd)(A9:Option Addr)(c9:Nat)(hx:Ds xs k.name=some (⟨85,nm,fs⟩,.slice A9 fs.length c9))(htg:∀f∈fs,Au fs f.tag=some f)(h200:∀f∈fs,f.tag<=200)(hfk:∀f∈fs,(Bc f.kind).length<=20)(hn0:0<fs.length)(hn8:fs.length<=8)(d:Int)(hd:-1000<=d)(hd2:d<=1000)(N:Nat)(B:Nat)(HH:∀f∈fs,Tx xs (.slice A0 xs.length c0) f.kind (d - 1) N B)(hdp:0<d):DtC xs (.slice A0 xs.length c0) k d (N+1) (B+100):=by
 intro g p w hsc hR hp;have hgl:=hR.lt;have HR:=Aa hR;have HSc:=Aa hsc
 have Hr:=Aa (show ∀W,Fu W (.slice A0 xs.length c0) xs->Calls prog 56 #[.slice A0 xs.length c0,.string ⟨(Bc k).toArray⟩] W fun e w'=>e=.returned (.tuple #[.agg #[.int .u8 85,nm,.slice A9 fs.length c9],.bool true])/\Below W W w' from fun W hW=>by
  have h:=E7 (.slice A0 xs.length c0) xs k W hW hk;rw[show Jw xs k=some (⟨85,nm,fs⟩,.slice A9 fs.length c9)from by unfold Jw;rw[if_pos ⟨hsg,hbs⟩];exact hx]at h;exact h)
 have HFd:=@Aa (∀W,Fu W (.slice A0 xs.length c0) xs->Dj W (.slice A9 fs.length c9) fs) (fun W hW=>by obtain⟨_,_,_,_,_,hf⟩:=hW;exact hf _ (Cp hx).1);have hft:=(Cp hx).2.2;have hkl:(Bc k).length<=100:=cm;have Hok:=Aa (fun f (hf:f∈fs) x (h:Gp (Ae xs) N f.kind x)=>Gp.uni (S:=Ae xs) hsg hbs hft rfl (htg f hf) h);have Hsv:=@Aa (∀f∈fs,∀x,By (Ae xs) k (.mk 85 [] f.tag [x])=.mk (Bc k) [85] [f.tag] [By (Ae xs) f.kind x]) (fun f hf x=>by rw[N3,E8 hft (htg f hf)]);unfold Tx at HH;have Hh2:=Aa h200;have Hfk:=Aa hfk;generalize Bc k=kb at *;obtain⟨xv,hxv⟩:∃xv:Value,xv=.slice A0 xs.length c0:=⟨_,rfl⟩
 rw[<-hxv]at HSc Hr HFd HH ⊢;have HH0:=Aa HH;clear HH hR hsc hk hsg hbs hx hft htg h200 hfk hxv;go_enter func118,ntmps118;go_wp2_with fail;refine(Hr.o _ HSc.o).mono ?_;rintro e w1 ⟨rfl,hb1⟩;have HR1:=Aa (HR.o.below hb1);have Hb1:=Aa hb1;have hz1:=hb1.size;clear hb1;have hcv:=fun W=>Kx W (w1.heap.size+1) 1 85;obtain⟨W3,hW3⟩:∃W3,W3=((w1.alloc (.cells #[.int .u8 85,nm,.slice A9 fs.length c9] 90)).alloc (.cells #[.int .u8 85] 5)).alloc (.cells #[kb,([85]:List UInt8),.slice none 0 0,.slice none 0 0] 87):=⟨_,rfl⟩
 have hz3:W3.heap.size=w1.heap.size+3:=gA;have b13:Below w1 w1 W3:=gY
 have HS3:=Aa (show D7 (w1.heap.size+3) (w1.heap.size+2) W3 kb ([85]:List UInt8) (.slice none 0 0) (.slice none 0 0) (.slice none 0 0) (.slice none 0 0) [] []from by
  have:=D7.new (W:=(w1.alloc (.cells #[.int .u8 85,nm,.slice A9 fs.length c9] 90)).alloc (.cells #[.int .u8 85] 5)) (T:=87) kb ([85]:List UInt8);rw[<-hW3]at this;simpa using this)
 have HR3:=Aa (HR1.o.below b13);have Hg3:=@Aa (w.grownBy W3 (some g)) (Ce (Hb1.o.trans (b13.mono Hb1.o.size)) _);have HX3:=@Aa (Fu W3 xv xs) (HSc.o.below (Hb1.o.trans (b13.mono Hb1.o.size)));have X2:=@Aa (W3.cell? (w1,2)=some (.slice A9 fs.length c9)) fR;have HF3:=Aa (HFd.o W3 HX3.o);have Hw3:=Aa hW3;clear hW3 b13 HR1;obtain⟨A5,cc5,e5,hl5,hr5⟩:=HFd.o w1 (HSc.o.below Hb1.o);injection e5 with e5 _ e6;subst e5 e6;obtain⟨b5,o5,rfl,hb5,x0,x1,x2,x3⟩:=Dj.at_ hr5 hn0;have Hf0:=Aa (af hn0);generalize fs[0]=f0 at x0 x1 x2 x3 Hf0;simp only[Nat.zero_mul,Nat.add_zero]at x0 x1 x2 x3;have nb0:¬(b5=w1.heap.size):=aI;have nb1:¬(b5=w1.heap.size+1):=aI;have nb2:¬(b5=w1.heap.size+1+1):=aI;have lb1:b5<w1.heap.size+1:=aI;have lb2:b5<w1.heap.size+1+1:=aI;have hn0i:(0:Int)<(fs.length:Int):=aI;go_upto_region 10 with fail
 rw[<-Hw3.o];clear hcv;obtain⟨W4,hW4⟩:∃W4,W4=(W3.alloc (.cells #[(f0.tag:Int),f0.name,.string ⟨(Bc f0.kind).toArray⟩,f0.given] 94)).drew:=⟨_,rfl⟩
 have b34:Below W3 W3 W4:=by rw[hW4];exact((Am _ _).alloc (Ao _) _).drew
 have hz4:W4.heap.size=w1.heap.size+4:=by rw[hW4];simp;omega
 have HS4:=Aa (HS3.o.after b34);have HR4:=Aa (HR3.o.below b34);have Hg4:=Aa (Ad Hg3.o (Ce b34 _));have T4:=Aa (show W4.there (w1.heap.size+3) 0 4 by rw[hW4,<-hz3];have h9:=B9 W3 (Ky f0) 94;exact An h9 (show W3.heap.size<(W3.alloc (.cells (Ky f0).toArray 94)).heap.size by simp) (Am _ _).drew);have X4:=Aa ((b34.cell (p:=⟨w1.heap.size,2,none⟩) (show w1.heap.size<W3.heap.size by omega)).trans X2.o);have HF4:=@Aa (Dj W4 (.slice (some ⟨b5,o5,none⟩) fs.length c9) fs) (HF3.o.below b34);have HW4:=Aa hW4;clear hW4 b34 Hw3 x0 x1 x2 x3 HS3 HR3 Hg3 X2 HF3;refine Gd [55,56,57,58,59,60,61,62,63,999]
  (fun ix v W=>match ix with|0=>v=(w1,2)|1=>v=.slice (some ⟨b5,o5,none⟩) fs.length c9|2=>v=g|3=>v=(w1,2)|4=>v=.slice (some ⟨b5,o5,none⟩) fs.length c9|5=>v=(fs.length:Int)|6=>∃x:Nat,v=(x:Int)/\x<fs.length|7=>∃x:Nat,x<fs.length/\v=.pointer (some ⟨b5,o5+x*4,none⟩)|8=>∃f∈fs,v=.agg #[(f.tag:Int),f.name,.string ⟨(Bc f.kind).toArray⟩,f.given]|_=>True)
  (fun L U W=>(L 6=false->W=W4)/\(L 6=true->L 9=false->Et W g (p+1)/\W4.grownBy W (some g))/\(L 9=true->∃f∈fs,∃W8,W=W8.setCells (w1.heap.size+3) 0 (Ky f)/\Et W8 g (p+1)/\W4.grownBy W8 (some g))) (by rw[<-HW4.o];exact⟨fun _=>rfl,fun h=>Bool.noConfusion h,fun h=>Bool.noConfusion h⟩) ?_ ?_
 ·repeat (first|exact Ai.nil|(refine Ai.cons ?_ ?_;rotate_left))
  all_goals
   rintro L U W hL hpre HR Hdep K hK;first|(simp[Region.binds]at hpre;done)|simp[Region.binds]at hpre|clear hpre
  ·exact ii
  ·have h9:L 9=false:=At Hdep.o 9 8 rfl (At Hdep.o 8 7 rfl (At Hdep.o 7 1 rfl hL));have x2:W.cell? (w1,2)=some (.slice (some ⟨b5,o5,none⟩) fs.length c9):=by
    cases e6:L 6 with
    |false=>rw[HR.o.1 e6];exact X4.o
    |true=>exact(HR.o.2.1 e6 h9).2.cell X4.o (fun e=>by injection e with e;simp only at e;omega)
   exact lR
  iterate 2
   ·exact ii
  ·have h9:L 9=false:=At Hdep.o 9 8 rfl (At Hdep.o 8 7 rfl (At Hdep.o 7 6 rfl (At Hdep.o 6 5 rfl (At Hdep.o 5 4 rfl hL))));have x2:W.cell? (w1,2)=some (.slice (some ⟨b5,o5,none⟩) fs.length c9):=by
    cases e6:L 6 with
    |false=>rw[HR.o.1 e6];exact X4.o
    |true=>exact(HR.o.2.1 e6 h9).2.cell X4.o (fun e=>by injection e with e;simp only at e;omega)
   exact lR
  ·exact ii
  ·have h9:L 9=false:=At Hdep.o 9 8 rfl (At Hdep.o 8 7 rfl (At Hdep.o 7 6 rfl hL));have hW:=HR.o.1 hL;subst hW;go_simp;refine(Bj g p (fs.length:Int) _ HR4.o aI aI aI).mono ?_;rintro e w5 ⟨x,rfl,hx1,_,hR5,hg5⟩;exact hK _ _ _ ⟨x,rfl,by omega⟩ Ab ⟨fun h=>by simp at h,fun _ _=>⟨hR5,hg5⟩,fun h=>absurd (h9.symm.trans aQ) aL⟩ aK
  ·obtain⟨x,u6,hx⟩:∃x:Nat,U 6=(x:Int)/\x<fs.length:=fU;have u1:U 1=.slice (some ⟨b5,o5,none⟩) fs.length c9:=fT;have i1:(0:Int)<=(x:Int):=aI;have i2:(x:Int)<(fs.length:Int):=aI;simp only[u6,u1];go_simp;exact hK _ _ _ ⟨x,hx,rfl⟩ Ab HR.o (by simp[Act.put,hpre,u6,u1])
  ·obtain⟨x,hx,u7⟩:∃x:Nat,x<fs.length/\U 7=.pointer (some ⟨b5,o5+x*4,none⟩):=dO;have l7:L 7=true:=fw;have l6:L 6=true:=G7 (At Hdep.o 7 6 rfl) l7;have h9:L 9=false:=At Hdep.o 9 8 rfl hL;obtain⟨hR5,hg5⟩:=HR.o.2.1 l6 h9;obtain⟨A5,c5,e5,hl5,hr5⟩:=HF4.o.grown HR4.o hg5;injection e5 with e5 _ e6;subst e5 e6;obtain⟨b6,o6,eA6,_,y0,y1,y2,y3⟩:=Dj.at_ hr5 hx;injection eA6 with eA6;injection eA6 with e7 e8;subst e7 e8;simp only[u7];go_simp;exact hK _ _ _ ⟨_,af hx,rfl⟩ Ab HR.o (by simp[Act.put,hpre,u7])
  ·obtain⟨f,hf,u8⟩:∃f∈fs,U 8=.agg #[(f.tag:Int),f.name,.string ⟨(Bc f.kind).toArray⟩,f.given]:=by first|exact hpre.2|exact hpre.1.2|exact hpre.2.2|exact hpre
   have l8:L 8=true:=by first|exact hpre.1|exact hpre.2.1|exact hpre.1.1
   have l7:L 7=true:=G7 (At Hdep.o 8 7 rfl) l8;have l6:L 6=true:=G7 (At Hdep.o 7 6 rfl) l7;obtain⟨hR5,hg5⟩:=HR.o.2.1 l6 hL;rw[if_pos cC];refine wp_store_mid 94 _ _ rfl (w1.heap.size+3) 0 (Ky f).toArray rfl u8 (Qax T4.o aI hg5 (fun e=>by injection e with e;omega)) aP (by simp[Ky,Value.oneCell']) ?_;exact hK undef _ _ Ab Ab ⟨fun h=>absurd (l6.symm.trans aQ) aL,fun _ h=>by simp at h,fun _=>⟨f,hf,W,rfl,hR5,hg5⟩⟩ rfl
 rintro L U W hL hφ hR;clear hφ;obtain⟨f,hf,W8,rfl,hR8,hg8⟩:=hR.2.2 (hL 9 aL);have HS8:=HS4.o.gr hg8 aI;have T8:=Qax T4.o aI hg8 (fun e=>by injection e with e;omega);obtain⟨W9,hW9⟩:∃W9,W9=W8.setCells (w1.heap.size+3) 0 (Ky f):=⟨_,rfl⟩
 have hgc:W8.grownBy W9 (some (w1.heap.size+3)):=by rw[hW9];exact Pt _ _ _ _
 have HS9:=Aa (HS8.far hgc);have HR9:=Aa (hR8.row hgc (base:=w1.heap.size+3) (fun k e=>by injection e with e;omega) aI);have Hg9:=Aa (Fq (Ad Hg4.o hg8) hgc (base:=w1.heap.size+3) (fun k e=>by injection e with e;omega) aI);have LF9:=Aa (show w1.heap.size+3<W9.heap.size by have:=hg8.size;have:=hgc.size;omega);have RF9:=Aa (show W9.rangeAt (w1.heap.size+3) 0 (Ky f)by rw[hW9];exact ac _ _ _ _ T8);rw[<-hW9];clear hW9 hgc T8 HS8 hR8 hg8 hR hL;have HCf:=Aa (HH0.o f hf);have Hf:=Aa hf;clear hf;have z0:=Ac RF9.o 0 rfl;have z2:=Ac RF9.o 2 rfl;simp only[ao]at z0 z2;have y2:=HS9.o.c2;have y2f:=HS9.o.bk.live 2;have ly:=HS9.o.lt;have lF:=LF9.o;have nBF:¬(w1.heap.size+3=w1.heap.size+2):=aI;have nB9:¬(w1.heap.size+2=W9.heap.size):=aI;have nF9:¬(w1.heap.size+3=W9.heap.size):=aI;have hwd:IntKind.i64.wrap (d - 1)=d - 1:=IntWalk.i64_in _ aI;have hE:(W9.setCell ⟨w1.heap.size+1+1,2,none⟩ (.slice (some ⟨W9.heap.size,0,none⟩) 1 1)).alloc (.cells #[(f.tag:Int)] 3)=(W9.alloc (.cells #[(f.tag:Int)] 3)).setCell ⟨w1.heap.size+2,2,none⟩ (.slice (some ⟨W9.heap.size,0,none⟩) 1 1):=by
  have ly2:w1.heap.size+1+1<W9.heap.size:=ly;show _=(W9.alloc (.cells #[(f.tag:Int)] 3)).setCell ⟨w1.heap.size+1+1,2,none⟩ (.slice (some ⟨W9.heap.size,0,none⟩) 1 1);go_simp
 have HE9:=Aa hE;clear hE;go_wp2_with fail;obtain⟨WC,hWC⟩:∃WC,WC=(W9.alloc (.cells #[(f.tag:Int)] 3)).setCell ⟨w1.heap.size+2,2,none⟩ (.slice (some ⟨W9.heap.size,0,none⟩) 1 1):=⟨_,rfl⟩
 have hzC:WC.heap.size=W9.heap.size+1:=by rw[hWC];simp
 have HSC:=@Aa (D7 (w1.heap.size+3) (w1.heap.size+2) WC kb ([85]:List UInt8) (.slice (some ⟨W9.heap.size,0,none⟩) 1 1) (.slice (some ⟨W9.heap.size,0,none⟩) 1 1) (.slice none 0 0) (.slice none 0 0) [f.tag] []) (by rw[hWC];exact HS9.o.putT f.tag);have HRC:=Aa (show Et WC g (p+1)by rw[hWC];exact(HR9.o.dalloc _).row (Al _ (w1.heap.size+2) 2 _) (base:=w1.heap.size+2) (fun k e=>by injection e with e;omega) aI);have HgC:=Aa (show w.grownBy WC (some g)by rw[hWC];exact Fq (Ad Hg9.o (World.grownBy_alloc W9 _ _)) (Al _ (w1.heap.size+2) 2 _) (base:=w1.heap.size+2) (fun k e=>by injection e with e;omega) aI);have HXC:=@Aa (Fu WC xv xs) (HSc.o.grown HR.o HgC.o);rw[HE9.o,<-hWC];clear hWC z0 z2 y2 y2f ly lF nBF nB9 nF9;refine(HCf.o g (p+1) WC HXC.o HRC.o aI).mono ?_;rintro e w5 ⟨b6,v6,q6,rfl,k1,k2,k3,k4,k5,k6⟩;have HS5:=Aa (HSC.o.gr k6 aI);have y3:=HS5.o.c3;have y3f:=HS5.o.bk.live 3;have ly5:=HS5.o.lt;have nB5:¬(w1.heap.size+2=w5.heap.size):=aI;have K1:=Aa k1;have K4:=Aa k4;have K5:=Aa k5;have Hg5:=Aa (Ad HgC.o k6);clear k1 k4 k5 k6;have hE:(w5.setCell ⟨w1.heap.size+1+1,3,none⟩ (.slice (w5,0) 1 1)).alloc (.cells #[b6] 53)=(w5.alloc (.cells #[b6] 53)).setCell ⟨w1.heap.size+2,3,none⟩ (.slice (w5,0) 1 1):=by
  have ly2:w1.heap.size+1+1<w5.heap.size:=ly5;show _=(w5.alloc (.cells #[b6] 53)).setCell ⟨w1.heap.size+1+1,3,none⟩ (.slice (w5,0) 1 1);go_simp
 have HE5:=Aa hE;clear hE;go_wp2_with fail;go_ret;rw[HE5.o];have lF9:=LF9.o;have hdl:=Db 2 f.tag (by have:=Hh2.o f Hf.o;omega);refine⟨w1.heap.size+2,.mk 85 [] f.tag [v6],q6,rfl,Hok.o f Hf.o v6 K1.o,by rw[Th];simp[Jn];omega,by omega,?_,(K5.o.dalloc _).row (Al _ (w1.heap.size+2) 3 _) (base:=w1.heap.size+2) (fun k e=>by injection e with e;omega) aI,Fq (Ad Hg5.o (World.grownBy_alloc w5 _ _)) (Al _ (w1.heap.size+2) 3 _) (base:=w1.heap.size+2) (fun k e=>by injection e with e;omega) aI⟩;exact mg
end
theorem Tryz.sizeBuilder:(prog.info? 134).map (·.size)=some 2:=aP
theorem Tryz.liesBuilder:liesAt prog prog.depth 134 (2 / prog.cellsOf 134) 0 134 1=true:=aP
theorem Tryz.cellsByte:prog.cellsOf 5=1:=aP
section
variable {P:Program}
end
theorem Qaf(a b:List (List UInt8)):B6 (a++b)=B6 a++B6 b:=by simp[B6]
end Go.Proofs.YtpjijpcemejlnaaGreatDoor
