/- Texts joined. Conditions: as each theorem names them. -/
import Derived.Lib.Builder
import Derived.Lib.AppendStr
import Derived.Lib.UnsafeStr
import Derived.Lib.MakeNoZero
import Derived.Laws.Externs
import Derived.Laws.BitsLemmas
import Derived.RegionTactic
import Derived.Laws.AppendOwnNone
import Derived.Test.YtmmhmlmfhpfgbaaGreatDoorF24
set_option maxRecDepth 100000
set_option maxHeartbeats 32000000
set_option linter.unusedVariables false
set_option linter.unusedSimpArgs false
namespace Go.Proofs.YtmmhmlmfhpfgbaaGreatDoor
open Go.RowKit Go.Proofs.Tryz
section
attribute [local go_sem] Qoe Qnf Qmu Qk2 ByteArray.mk_append_mk
theorem Qa0{W W':World}{b o n:Nat}{r:Option Nat}(h:W.there b o n)(hb:b<W.heap.size)(hg:W.grownBy W' r)(hne:some b≠r):W'.there b o n:=fun j hj=>by
 obtain⟨h1,h2⟩:=h j hj;have e:=hg.block b hb hne;simp only[World.cell?,World.frozen?,e]at h1 h2 ⊢;exact⟨h1,h2⟩
theorem Pz(b:Nat):∀(vs:List Value) (o:Nat) (w:World),w.grownBy (w.setCells b o vs) (some b)
 |[],_,w=>World.grownBy.refl _ _
 |v::r,o,w=>Ae (Am w b o v) (Pz b r (o+1) _)
theorem Ee.far{base B b:Nat}{W W':World}{h0 h1:Value}(h:Ee base B W h0 h1 (.slice none 0 0) (.slice none 0 0) (.slice none 0 0) (.slice none 0 0) [] [])(hg:W.grownBy W' (some b))(hb:b≠B:=by omega):Ee base B W' h0 h1 (.slice none 0 0) (.slice none 0 0) (.slice none 0 0) (.slice none 0 0) [] []:=by
 have hn:some B≠some b:=fun e=>hb (by injection e with e;exact e.symm);exact⟨ac h.lt hg.size,ad h.bs hg.size,h.hB,h.bk.grown h.lt hg hn,hg.cell h.c0 hn,hg.cell h.c1 hn,hg.cell h.c2 hn,hg.cell h.c3 hn,World.ownsRow_nil _ _ _ _,World.ownsRow_nil _ _ _ _,by simp⟩
theorem Ql5(xs:List (Ty × Value))(A0:Option Addr)(c0:Nat)(k:Kd)(hk:Ck k)(hsg:k.signs=[])(hbs:k.base=[64])(nm:List UInt8)(fs:List Fd)(A9:Option Addr)(c9:Nat)(hx:Dy xs k.name=some (⟨85,nm,fs⟩,.slice A9 fs.length c9))(htg:∀f∈fs,Au fs f.tag=some f)(h200:∀f∈fs,f.tag<=200)(hfk:∀f∈fs,(Ax f.kind).length<=20)(hn0:0<fs.length)(hn8:fs.length<=8)(d:Int)(hd:-1000<=d)(hd2:d<=1000)(N:Nat)(B:Nat)(HH:Vx xs (.slice A0 xs.length c0) (fs[0]).kind (d - 1) N B)(hdp:¬0<d):DtC xs (.slice A0 xs.length c0) k d (N+1) (B+100):=by
 intro g p w hsc hR hp;have hgl:=hR.lt;have HR:=Aa hR;have HSc:=Aa hsc
 have Hr:=Aa (show ∀W,Gb W (.slice A0 xs.length c0) xs->Calls prog 101 #[.slice A0 xs.length c0,.string ⟨(Ax k).toArray⟩] W fun e w'=>e=.returned (.tuple #[.agg #[.int .u8 85,nm,.slice A9 fs.length c9],.bool true])/\Below W W w' from fun W hW=>by
  have h:=Ey (.slice A0 xs.length c0) xs k W hW hk;rw[show Jq xs k=some (⟨85,nm,fs⟩,.slice A9 fs.length c9)from by unfold Jq;rw[if_pos ⟨hsg,hbs⟩];exact hx]at h;exact h)
 have HFd:=@Aa (∀W,Gb W (.slice A0 xs.length c0) xs->Dq W (.slice A9 fs.length c9) fs) (fun W hW=>by obtain⟨_,_,_,_,_,hf⟩:=hW;exact hf _ (Cp hx).1);have hft:=(Cp hx).2.2;have hkl:(Ax k).length<=100:=cd;have Hok:=Aa (fun f (hf:f∈fs) x (h:Ha (Ad xs) N f.kind x)=>Ha.uni (S:=Ad xs) hsg hbs hft rfl (htg f hf) h);have Hsv:=@Aa (∀f∈fs,∀x,Cd (Ad xs) k (.mk 85 [] f.tag [x])=.mk (Ax k) [85] [f.tag] [Cd (Ad xs) f.kind x]) (fun f hf x=>by rw[Pf,Ez hft (htg f hf)]);unfold Vx at HH;have Hh2:=Aa h200;have Hfk:=Aa hfk;generalize Ax k=kb at *;obtain⟨xv,hxv⟩:∃xv:Value,xv=.slice A0 xs.length c0:=⟨_,rfl⟩
 rw[<-hxv]at HSc Hr HFd HH ⊢;have HH0:=Aa HH;clear HH hR hsc hk hsg hbs hx hft htg h200 hfk hxv;go_enter func167,ntmps167;go_wp2_with fail;refine(Hr.o _ HSc.o).mono ?_;rintro e w1 ⟨rfl,hb1⟩;have HR1:=Aa (HR.o.below hb1);have Hb1:=Aa hb1;have hz1:=hb1.size;clear hb1;have hcv:=fun W=>Kz W (w1.heap.size+1) 1 85;obtain⟨W3,hW3⟩:∃W3,W3=((w1.alloc (.cells #[.int .u8 85,nm,.slice A9 fs.length c9] 143)).alloc (.cells #[.int .u8 85] 5)).alloc (.cells #[kb,([85]:List UInt8),.slice none 0 0,.slice none 0 0] 148):=⟨_,rfl⟩
 have hz3:W3.heap.size=w1.heap.size+3:=fr;have b13:Below w1 w1 W3:=gK
 have HS3:=Aa (show Ee (w1.heap.size+3) (w1.heap.size+2) W3 kb ([85]:List UInt8) (.slice none 0 0) (.slice none 0 0) (.slice none 0 0) (.slice none 0 0) [] []from by
  have:=Ee.new (W:=(w1.alloc (.cells #[.int .u8 85,nm,.slice A9 fs.length c9] 143)).alloc (.cells #[.int .u8 85] 5)) (T:=148) kb ([85]:List UInt8);rw[<-hW3]at this;simpa using this)
 have HR3:=Aa (HR1.o.below b13);have Hg3:=@Aa (w.grownBy W3 (some g)) (Cc (Hb1.o.trans (b13.mono Hb1.o.size)) _);have HX3:=@Aa (Gb W3 xv xs) (HSc.o.below (Hb1.o.trans (b13.mono Hb1.o.size)));have X2:=@Aa (W3.cell? (w1,2)=some (.slice A9 fs.length c9)) fD;have HF3:=Aa (HFd.o W3 HX3.o);have Hw3:=Aa hW3;clear hW3 b13 HR1;obtain⟨A5,cc5,e5,hl5,hr5⟩:=HFd.o w1 (HSc.o.below Hb1.o);injection e5 with e5 _ e6;subst e5 e6;obtain⟨b5,o5,rfl,hb5,x0,x1,x2,x3⟩:=Dq.at_ hr5 hn0;have Hf0:=Aa (ae hn0);generalize fs[0]=f0 at x0 x1 x2 x3 Hf0 HH0;simp only[Nat.zero_mul,Nat.add_zero]at x0 x1 x2 x3;have nb0:¬(b5=w1.heap.size):=aH;have nb1:¬(b5=w1.heap.size+1):=aH;have nb2:¬(b5=w1.heap.size+1+1):=aH;have lb1:b5<w1.heap.size+1:=aH;have lb2:b5<w1.heap.size+1+1:=aH;have hn0i:(0:Int)<(fs.length:Int):=aH;go_upto_region 11 with fail
 rw[<-Hw3.o];clear hcv;obtain⟨W9,hW9⟩:∃W9,W9=W3.alloc (.cells #[(f0.tag:Int),f0.name,.string ⟨(Ax f0.kind).toArray⟩,f0.given] 157):=⟨_,rfl⟩
 rw[<-hW9];have b39:Below W3 W3 W9:=gA;have HS9:=Aa (HS3.o.after b39);have HR9:=Aa (HR3.o.below b39);have Hg9:=Aa (Ae Hg3.o (Cc b39 _));have LF9:=Aa (show w1.heap.size+3<W9.heap.size by rw[hW9];simp;omega);have RF9:=Aa (show W9.rangeAt (w1.heap.size+3) 0 (Ky f0)by rw[hW9,<-hz3];exact Bo W3 (Ky f0) 157);clear hW9 b39 Hw3 x0 x1 x2 x3 HS3 HR3 Hg3;obtain⟨f,hf⟩:∃f,f=f0:=⟨_,rfl⟩
 subst hf;have Hf:=Hf0;have HCf:=HH0;have z0:=Ab RF9.o 0 rfl;have z2:=Ab RF9.o 2 rfl;simp only[am]at z0 z2;have y2:=HS9.o.c2;have y2f:=HS9.o.bk.live 2;have ly:=HS9.o.lt;have lF:=LF9.o;have nBF:¬(w1.heap.size+3=w1.heap.size+2):=aH;have nB9:¬(w1.heap.size+2=W9.heap.size):=aH;have nF9:¬(w1.heap.size+3=W9.heap.size):=aH;have hwd:IntKind.i64.wrap (d - 1)=d - 1:=IntWalk.i64_in _ aH;have hE:(W9.setCell ⟨w1.heap.size+1+1,2,none⟩ (.slice (some ⟨W9.heap.size,0,none⟩) 1 1)).alloc (.cells #[(f.tag:Int)] 3)=(W9.alloc (.cells #[(f.tag:Int)] 3)).setCell ⟨w1.heap.size+2,2,none⟩ (.slice (some ⟨W9.heap.size,0,none⟩) 1 1):=by
  have ly2:w1.heap.size+1+1<W9.heap.size:=ly;show _=(W9.alloc (.cells #[(f.tag:Int)] 3)).setCell ⟨w1.heap.size+1+1,2,none⟩ (.slice (some ⟨W9.heap.size,0,none⟩) 1 1);go_simp
 have HE9:=Aa hE;clear hE;go_wp2_with fail;obtain⟨WC,hWC⟩:∃WC,WC=(W9.alloc (.cells #[(f.tag:Int)] 3)).setCell ⟨w1.heap.size+2,2,none⟩ (.slice (some ⟨W9.heap.size,0,none⟩) 1 1):=⟨_,rfl⟩
 have hzC:WC.heap.size=W9.heap.size+1:=by rw[hWC];simp
 have HSC:=@Aa (Ee (w1.heap.size+3) (w1.heap.size+2) WC kb ([85]:List UInt8) (.slice (some ⟨W9.heap.size,0,none⟩) 1 1) (.slice (some ⟨W9.heap.size,0,none⟩) 1 1) (.slice none 0 0) (.slice none 0 0) [f.tag] []) (by rw[hWC];exact HS9.o.putT f.tag);have HRC:=Aa (show Fg WC g (p)by rw[hWC];exact(HR9.o.dalloc _).row (Am _ (w1.heap.size+2) 2 _) (base:=w1.heap.size+2) (fun k e=>by injection e with e;omega) aH);have HgC:=Aa (show w.grownBy WC (some g)by rw[hWC];exact Fs (Ae Hg9.o (World.grownBy_alloc W9 _ _)) (Am _ (w1.heap.size+2) 2 _) (base:=w1.heap.size+2) (fun k e=>by injection e with e;omega) aH);have HXC:=@Aa (Gb WC xv xs) (HSc.o.grown HR.o HgC.o);rw[HE9.o,<-hWC];clear hWC z0 z2 y2 y2f ly lF nBF nB9 nF9;refine(HCf.o g (p) WC HXC.o HRC.o aH).mono ?_;rintro e w5 ⟨b6,v6,q6,rfl,k1,k2,k3,k4,k5,k6⟩;have HS5:=Aa (HSC.o.gr k6 aH);have y3:=HS5.o.c3;have y3f:=HS5.o.bk.live 3;have ly5:=HS5.o.lt;have nB5:¬(w1.heap.size+2=w5.heap.size):=aH;have K1:=Aa k1;have K4:=Aa k4;have K5:=Aa k5;have Hg5:=Aa (Ae HgC.o k6);clear k1 k4 k5 k6;have hE:(w5.setCell ⟨w1.heap.size+1+1,3,none⟩ (.slice (w5,0) 1 1)).alloc (.cells #[b6] 76)=(w5.alloc (.cells #[b6] 76)).setCell ⟨w1.heap.size+2,3,none⟩ (.slice (w5,0) 1 1):=by
  have ly2:w1.heap.size+1+1<w5.heap.size:=ly5;show _=(w5.alloc (.cells #[b6] 76)).setCell ⟨w1.heap.size+1+1,3,none⟩ (.slice (w5,0) 1 1);go_simp
 have HE5:=Aa hE;clear hE;go_wp2_with fail;go_ret;rw[HE5.o];have lF9:=LF9.o;have hdl:=Da 2 f.tag (by have:=Hh2.o f Hf.o;omega);refine⟨w1.heap.size+2,.mk 85 [] f.tag [v6],q6,rfl,Hok.o f Hf.o v6 K1.o,by rw[Td];simp[Ja];omega,by omega,?_,(K5.o.dalloc _).row (Am _ (w1.heap.size+2) 3 _) (base:=w1.heap.size+2) (fun k e=>by injection e with e;omega) aH,Fs (Ae Hg5.o (World.grownBy_alloc w5 _ _)) (Am _ (w1.heap.size+2) 3 _) (base:=w1.heap.size+2) (fun k e=>by injection e with e;omega) aH⟩;exact lg
theorem Qlg(xs:List (Ty × Value))(A0:Option Addr)(c0:Nat)(k:Kd)(hk:Ck k)(hsg:k.signs=[])(hbs:k.base=[64])(nm:List UInt8)(fs:List Fd)(A9:Option Addr)(c9:Nat)(hx:Dy xs k.name=some (⟨85,nm,fs⟩,.slice A9 fs.length c9))(htg:∀f∈fs,Au fs f.tag=some f)(h200:∀f∈fs,f.tag<=200)(hfk:∀f∈fs,(Ax f.kind).length<=20)(hn0:0<fs.length)(hn8:fs.length<=8)(d:Int)(hd:-1000<=d)(hd2:d<=1000)(N:Nat)(B:Nat)(HH:∀f∈fs,Vx xs (.slice A0 xs.length c0) f.kind (d - 1) N B)(hdp:0<d):DtC xs (.slice A0 xs.length c0) k d (N+1) (B+100):=by
 intro g p w hsc hR hp;have hgl:=hR.lt;have HR:=Aa hR;have HSc:=Aa hsc
 have Hr:=Aa (show ∀W,Gb W (.slice A0 xs.length c0) xs->Calls prog 101 #[.slice A0 xs.length c0,.string ⟨(Ax k).toArray⟩] W fun e w'=>e=.returned (.tuple #[.agg #[.int .u8 85,nm,.slice A9 fs.length c9],.bool true])/\Below W W w' from fun W hW=>by
  have h:=Ey (.slice A0 xs.length c0) xs k W hW hk;rw[show Jq xs k=some (⟨85,nm,fs⟩,.slice A9 fs.length c9)from by unfold Jq;rw[if_pos ⟨hsg,hbs⟩];exact hx]at h;exact h)
 have HFd:=@Aa (∀W,Gb W (.slice A0 xs.length c0) xs->Dq W (.slice A9 fs.length c9) fs) (fun W hW=>by obtain⟨_,_,_,_,_,hf⟩:=hW;exact hf _ (Cp hx).1);have hft:=(Cp hx).2.2;have hkl:(Ax k).length<=100:=cd;have Hok:=Aa (fun f (hf:f∈fs) x (h:Ha (Ad xs) N f.kind x)=>Ha.uni (S:=Ad xs) hsg hbs hft rfl (htg f hf) h);have Hsv:=@Aa (∀f∈fs,∀x,Cd (Ad xs) k (.mk 85 [] f.tag [x])=.mk (Ax k) [85] [f.tag] [Cd (Ad xs) f.kind x]) (fun f hf x=>by rw[Pf,Ez hft (htg f hf)]);unfold Vx at HH;have Hh2:=Aa h200;have Hfk:=Aa hfk;generalize Ax k=kb at *;obtain⟨xv,hxv⟩:∃xv:Value,xv=.slice A0 xs.length c0:=⟨_,rfl⟩
 rw[<-hxv]at HSc Hr HFd HH ⊢;have HH0:=Aa HH;clear HH hR hsc hk hsg hbs hx hft htg h200 hfk hxv;go_enter func167,ntmps167;go_wp2_with fail;refine(Hr.o _ HSc.o).mono ?_;rintro e w1 ⟨rfl,hb1⟩;have HR1:=Aa (HR.o.below hb1);have Hb1:=Aa hb1;have hz1:=hb1.size;clear hb1;have hcv:=fun W=>Kz W (w1.heap.size+1) 1 85;obtain⟨W3,hW3⟩:∃W3,W3=((w1.alloc (.cells #[.int .u8 85,nm,.slice A9 fs.length c9] 143)).alloc (.cells #[.int .u8 85] 5)).alloc (.cells #[kb,([85]:List UInt8),.slice none 0 0,.slice none 0 0] 148):=⟨_,rfl⟩
 have hz3:W3.heap.size=w1.heap.size+3:=fr;have b13:Below w1 w1 W3:=gK
 have HS3:=Aa (show Ee (w1.heap.size+3) (w1.heap.size+2) W3 kb ([85]:List UInt8) (.slice none 0 0) (.slice none 0 0) (.slice none 0 0) (.slice none 0 0) [] []from by
  have:=Ee.new (W:=(w1.alloc (.cells #[.int .u8 85,nm,.slice A9 fs.length c9] 143)).alloc (.cells #[.int .u8 85] 5)) (T:=148) kb ([85]:List UInt8);rw[<-hW3]at this;simpa using this)
 have HR3:=Aa (HR1.o.below b13);have Hg3:=@Aa (w.grownBy W3 (some g)) (Cc (Hb1.o.trans (b13.mono Hb1.o.size)) _);have HX3:=@Aa (Gb W3 xv xs) (HSc.o.below (Hb1.o.trans (b13.mono Hb1.o.size)));have X2:=@Aa (W3.cell? (w1,2)=some (.slice A9 fs.length c9)) fD;have HF3:=Aa (HFd.o W3 HX3.o);have Hw3:=Aa hW3;clear hW3 b13 HR1;obtain⟨A5,cc5,e5,hl5,hr5⟩:=HFd.o w1 (HSc.o.below Hb1.o);injection e5 with e5 _ e6;subst e5 e6;obtain⟨b5,o5,rfl,hb5,x0,x1,x2,x3⟩:=Dq.at_ hr5 hn0;have Hf0:=Aa (ae hn0);generalize fs[0]=f0 at x0 x1 x2 x3 Hf0;simp only[Nat.zero_mul,Nat.add_zero]at x0 x1 x2 x3;have nb0:¬(b5=w1.heap.size):=aH;have nb1:¬(b5=w1.heap.size+1):=aH;have nb2:¬(b5=w1.heap.size+1+1):=aH;have lb1:b5<w1.heap.size+1:=aH;have lb2:b5<w1.heap.size+1+1:=aH;have hn0i:(0:Int)<(fs.length:Int):=aH;go_upto_region 10 with fail
 rw[<-Hw3.o];clear hcv;obtain⟨W4,hW4⟩:∃W4,W4=(W3.alloc (.cells #[(f0.tag:Int),f0.name,.string ⟨(Ax f0.kind).toArray⟩,f0.given] 157)).drew:=⟨_,rfl⟩
 have b34:Below W3 W3 W4:=by rw[hW4];exact((Ao _ _).alloc (An _) _).drew
 have hz4:W4.heap.size=w1.heap.size+4:=by rw[hW4];simp;omega
 have HS4:=Aa (HS3.o.after b34);have HR4:=Aa (HR3.o.below b34);have Hg4:=Aa (Ae Hg3.o (Cc b34 _));have T4:=Aa (show W4.there (w1.heap.size+3) 0 4 by rw[hW4,<-hz3];have h9:=Bz W3 (Ky f0) 157;exact Aj h9 (show W3.heap.size<(W3.alloc (.cells (Ky f0).toArray 157)).heap.size by simp) (Ao _ _).drew);have X4:=Aa ((b34.cell (p:=⟨w1.heap.size,2,none⟩) (show w1.heap.size<W3.heap.size by omega)).trans X2.o);have HF4:=@Aa (Dq W4 (.slice (some ⟨b5,o5,none⟩) fs.length c9) fs) (HF3.o.below b34);have HW4:=Aa hW4;clear hW4 b34 Hw3 x0 x1 x2 x3 HS3 HR3 Hg3 X2 HF3;refine Jd [55,56,57,58,59,60,61,62,63,999]
  (fun ix v W=>match ix with|0=>v=(w1,2)|1=>v=.slice (some ⟨b5,o5,none⟩) fs.length c9|2=>v=g|3=>v=(w1,2)|4=>v=.slice (some ⟨b5,o5,none⟩) fs.length c9|5=>v=(fs.length:Int)|6=>∃x:Nat,v=(x:Int)/\x<fs.length|7=>∃x:Nat,x<fs.length/\v=.pointer (some ⟨b5,o5+x*4,none⟩)|8=>∃f∈fs,v=.agg #[(f.tag:Int),f.name,.string ⟨(Ax f.kind).toArray⟩,f.given]|_=>True)
  (fun L U W=>(L 6=false->W=W4)/\(L 6=true->L 9=false->Fg W g (p+1)/\W4.grownBy W (some g))/\(L 9=true->∃f∈fs,∃W8,W=W8.setCells (w1.heap.size+3) 0 (Ky f)/\Fg W8 g (p+1)/\W4.grownBy W8 (some g))) (by rw[<-HW4.o];exact⟨fun _=>rfl,fun h=>Bool.noConfusion h,fun h=>Bool.noConfusion h⟩) ?_ ?_
 ·repeat (first|exact Ak.nil|(refine Ak.cons ?_ ?_;rotate_left))
  all_goals
   rintro L U W hL hpre HR Hdep K hK;first|(simp[Region.binds]at hpre;done)|simp[Region.binds]at hpre|clear hpre
  ·exact hD
  ·have h9:L 9=false:=Bb Hdep.o 9 8 rfl (Bb Hdep.o 8 7 rfl (Bb Hdep.o 7 1 rfl hL));have x2:W.cell? (w1,2)=some (.slice (some ⟨b5,o5,none⟩) fs.length c9):=by
    cases e6:L 6 with
    |false=>rw[HR.o.1 e6];exact X4.o
    |true=>exact(HR.o.2.1 e6 h9).2.cell X4.o (fun e=>by injection e with e;simp only at e;omega)
   exact kL
  iterate 2
   ·exact hD
  ·have h9:L 9=false:=Bb Hdep.o 9 8 rfl (Bb Hdep.o 8 7 rfl (Bb Hdep.o 7 6 rfl (Bb Hdep.o 6 5 rfl (Bb Hdep.o 5 4 rfl hL))));have x2:W.cell? (w1,2)=some (.slice (some ⟨b5,o5,none⟩) fs.length c9):=by
    cases e6:L 6 with
    |false=>rw[HR.o.1 e6];exact X4.o
    |true=>exact(HR.o.2.1 e6 h9).2.cell X4.o (fun e=>by injection e with e;simp only at e;omega)
   exact kL
  ·exact hD
  ·have h9:L 9=false:=Bb Hdep.o 9 8 rfl (Bb Hdep.o 8 7 rfl (Bb Hdep.o 7 6 rfl hL));have hW:=HR.o.1 hL;subst hW;go_simp;refine(Bs g p (fs.length:Int) _ HR4.o aH aH aH).mono ?_;rintro e w5 ⟨x,rfl,hx1,_,hR5,hg5⟩;exact hK _ _ _ ⟨x,rfl,by omega⟩ Ac ⟨fun h=>by simp at h,fun _ _=>⟨hR5,hg5⟩,fun h=>absurd (h9.symm.trans aR) aJ⟩ aI
  ·obtain⟨x,u6,hx⟩:∃x:Nat,U 6=(x:Int)/\x<fs.length:=fG;have u1:U 1=.slice (some ⟨b5,o5,none⟩) fs.length c9:=fF;have i1:(0:Int)<=(x:Int):=aH;have i2:(x:Int)<(fs.length:Int):=aH;simp only[u6,u1];go_simp;exact hK _ _ _ ⟨x,hx,rfl⟩ Ac HR.o (by simp[Act.put,hpre,u6,u1])
  ·obtain⟨x,hx,u7⟩:∃x:Nat,x<fs.length/\U 7=.pointer (some ⟨b5,o5+x*4,none⟩):=dC;have l7:L 7=true:=fc;have l6:L 6=true:=Np (Bb Hdep.o 7 6 rfl) l7;have h9:L 9=false:=Bb Hdep.o 9 8 rfl hL;obtain⟨hR5,hg5⟩:=HR.o.2.1 l6 h9;obtain⟨A5,c5,e5,hl5,hr5⟩:=HF4.o.grown HR4.o hg5;injection e5 with e5 _ e6;subst e5 e6;obtain⟨b6,o6,eA6,_,y0,y1,y2,y3⟩:=Dq.at_ hr5 hx;injection eA6 with eA6;injection eA6 with e7 e8;subst e7 e8;simp only[u7];go_simp;exact hK _ _ _ ⟨_,ae hx,rfl⟩ Ac HR.o (by simp[Act.put,hpre,u7])
  ·obtain⟨f,hf,u8⟩:∃f∈fs,U 8=.agg #[(f.tag:Int),f.name,.string ⟨(Ax f.kind).toArray⟩,f.given]:=by first|exact hpre.2|exact hpre.1.2|exact hpre.2.2|exact hpre
   have l8:L 8=true:=by first|exact hpre.1|exact hpre.2.1|exact hpre.1.1
   have l7:L 7=true:=Np (Bb Hdep.o 8 7 rfl) l8;have l6:L 6=true:=Np (Bb Hdep.o 7 6 rfl) l7;obtain⟨hR5,hg5⟩:=HR.o.2.1 l6 hL;rw[if_pos cr];refine wp_store_mid 157 _ _ rfl (w1.heap.size+3) 0 (Ky f).toArray rfl u8 (Qa0 T4.o aH hg5 (fun e=>by injection e with e;omega)) aN (by simp[Ky,Value.oneCell']) ?_;exact hK undef _ _ Ac Ac ⟨fun h=>absurd (l6.symm.trans aR) aJ,fun _ h=>by simp at h,fun _=>⟨f,hf,W,rfl,hR5,hg5⟩⟩ rfl
 rintro L U W hL hφ hR;clear hφ;obtain⟨f,hf,W8,rfl,hR8,hg8⟩:=hR.2.2 (hL 9 aJ);have HS8:=HS4.o.gr hg8 aH;have T8:=Qa0 T4.o aH hg8 (fun e=>by injection e with e;omega);obtain⟨W9,hW9⟩:∃W9,W9=W8.setCells (w1.heap.size+3) 0 (Ky f):=⟨_,rfl⟩
 have hgc:W8.grownBy W9 (some (w1.heap.size+3)):=by rw[hW9];exact Pz _ _ _ _
 have HS9:=Aa (HS8.far hgc);have HR9:=Aa (hR8.row hgc (base:=w1.heap.size+3) (fun k e=>by injection e with e;omega) aH);have Hg9:=Aa (Fs (Ae Hg4.o hg8) hgc (base:=w1.heap.size+3) (fun k e=>by injection e with e;omega) aH);have LF9:=Aa (show w1.heap.size+3<W9.heap.size by have:=hg8.size;have:=hgc.size;omega);have RF9:=Aa (show W9.rangeAt (w1.heap.size+3) 0 (Ky f)by rw[hW9];exact aa _ _ _ _ T8);rw[<-hW9];clear hW9 hgc T8 HS8 hR8 hg8 hR hL;have HCf:=Aa (HH0.o f hf);have Hf:=Aa hf;clear hf;have z0:=Ab RF9.o 0 rfl;have z2:=Ab RF9.o 2 rfl;simp only[am]at z0 z2;have y2:=HS9.o.c2;have y2f:=HS9.o.bk.live 2;have ly:=HS9.o.lt;have lF:=LF9.o;have nBF:¬(w1.heap.size+3=w1.heap.size+2):=aH;have nB9:¬(w1.heap.size+2=W9.heap.size):=aH;have nF9:¬(w1.heap.size+3=W9.heap.size):=aH;have hwd:IntKind.i64.wrap (d - 1)=d - 1:=IntWalk.i64_in _ aH;have hE:(W9.setCell ⟨w1.heap.size+1+1,2,none⟩ (.slice (some ⟨W9.heap.size,0,none⟩) 1 1)).alloc (.cells #[(f.tag:Int)] 3)=(W9.alloc (.cells #[(f.tag:Int)] 3)).setCell ⟨w1.heap.size+2,2,none⟩ (.slice (some ⟨W9.heap.size,0,none⟩) 1 1):=by
  have ly2:w1.heap.size+1+1<W9.heap.size:=ly;show _=(W9.alloc (.cells #[(f.tag:Int)] 3)).setCell ⟨w1.heap.size+1+1,2,none⟩ (.slice (some ⟨W9.heap.size,0,none⟩) 1 1);go_simp
 have HE9:=Aa hE;clear hE;go_wp2_with fail;obtain⟨WC,hWC⟩:∃WC,WC=(W9.alloc (.cells #[(f.tag:Int)] 3)).setCell ⟨w1.heap.size+2,2,none⟩ (.slice (some ⟨W9.heap.size,0,none⟩) 1 1):=⟨_,rfl⟩
 have hzC:WC.heap.size=W9.heap.size+1:=by rw[hWC];simp
 have HSC:=@Aa (Ee (w1.heap.size+3) (w1.heap.size+2) WC kb ([85]:List UInt8) (.slice (some ⟨W9.heap.size,0,none⟩) 1 1) (.slice (some ⟨W9.heap.size,0,none⟩) 1 1) (.slice none 0 0) (.slice none 0 0) [f.tag] []) (by rw[hWC];exact HS9.o.putT f.tag);have HRC:=Aa (show Fg WC g (p+1)by rw[hWC];exact(HR9.o.dalloc _).row (Am _ (w1.heap.size+2) 2 _) (base:=w1.heap.size+2) (fun k e=>by injection e with e;omega) aH);have HgC:=Aa (show w.grownBy WC (some g)by rw[hWC];exact Fs (Ae Hg9.o (World.grownBy_alloc W9 _ _)) (Am _ (w1.heap.size+2) 2 _) (base:=w1.heap.size+2) (fun k e=>by injection e with e;omega) aH);have HXC:=@Aa (Gb WC xv xs) (HSc.o.grown HR.o HgC.o);rw[HE9.o,<-hWC];clear hWC z0 z2 y2 y2f ly lF nBF nB9 nF9;refine(HCf.o g (p+1) WC HXC.o HRC.o aH).mono ?_;rintro e w5 ⟨b6,v6,q6,rfl,k1,k2,k3,k4,k5,k6⟩;have HS5:=Aa (HSC.o.gr k6 aH);have y3:=HS5.o.c3;have y3f:=HS5.o.bk.live 3;have ly5:=HS5.o.lt;have nB5:¬(w1.heap.size+2=w5.heap.size):=aH;have K1:=Aa k1;have K4:=Aa k4;have K5:=Aa k5;have Hg5:=Aa (Ae HgC.o k6);clear k1 k4 k5 k6;have hE:(w5.setCell ⟨w1.heap.size+1+1,3,none⟩ (.slice (w5,0) 1 1)).alloc (.cells #[b6] 76)=(w5.alloc (.cells #[b6] 76)).setCell ⟨w1.heap.size+2,3,none⟩ (.slice (w5,0) 1 1):=by
  have ly2:w1.heap.size+1+1<w5.heap.size:=ly5;show _=(w5.alloc (.cells #[b6] 76)).setCell ⟨w1.heap.size+1+1,3,none⟩ (.slice (w5,0) 1 1);go_simp
 have HE5:=Aa hE;clear hE;go_wp2_with fail;go_ret;rw[HE5.o];have lF9:=LF9.o;have hdl:=Da 2 f.tag (by have:=Hh2.o f Hf.o;omega);refine⟨w1.heap.size+2,.mk 85 [] f.tag [v6],q6,rfl,Hok.o f Hf.o v6 K1.o,by rw[Td];simp[Ja];omega,by omega,?_,(K5.o.dalloc _).row (Am _ (w1.heap.size+2) 3 _) (base:=w1.heap.size+2) (fun k e=>by injection e with e;omega) aH,Fs (Ae Hg5.o (World.grownBy_alloc w5 _ _)) (Am _ (w1.heap.size+2) 3 _) (base:=w1.heap.size+2) (fun k e=>by injection e with e;omega) aH⟩;exact lg
end
structure J9(Q:World->Value->Value->Value->Prop)(w1:World)(c m x y z a b e:Bool)(uc um ux uy uz ua ub ue:Value)(W:World):Prop where
 no:c=false->W=w1
 yes:c=true->∃vp vr vk,Q W vp vr vk/\uc=.tuple #[vp,vr,vk]/\(m=true->um=.tuple #[vp,vr,vk])/\(x=true->ux=vp)/\(y=true->uy=vr)/\(z=true->uz=vk)/\(a=true->ua=vp)/\(b=true->ub=vr)/\(e=true->ue=vk)
def SrQ(w1:World)(S:List Ty)(k:Kd)(o:Option (Vl × List UInt8))(W:World)(vp vr vk:Value):Prop:=
 Below w1.heap.size w1 W/\match o with
  |some x=>(∃b,vp=.pointer (some ⟨b,0,none⟩)/\Fl (fun c=>w1.heap.size<=c) W b (Cd S k x.1))/\vr=.string ⟨x.2.toArray⟩/\vk=.bool true
  |none=>(∃q,vp=.pointer q)/\(∃r,vr=.string r)/\vk=.bool false
theorem Bx.q{S:List Ty}{k:Kd}{o:Option (Vl × List UInt8)}{w w':World}{e:Ending}(h:Bx S k o w e w'):∃vp vr vk,e=.returned (.tuple #[vp,vr,vk])/\SrQ w S k o w' vp vr vk:=by
 obtain⟨h,hb⟩:=h
 cases o with
 |none=>obtain⟨q,r,rfl⟩:=h;exact⟨_,_,_,rfl,hb,⟨q,rfl⟩,⟨r,rfl⟩,rfl⟩
 |some x=>obtain⟨b,rfl,hs⟩:=h;exact⟨_,_,_,rfl,hb,⟨b,rfl,hs⟩,rfl,rfl⟩
section
variable {Q:World->Value->Value->Value->Prop} {w1 W W':World} {l m x y z a b e:Bool} {ul um ux uy uz ua ub ue vp vr vk:Value}
theorem J9.call(hm:m=false)(hx:x=false)(hy:y=false)(hz:z=false)(ha:a=false)(hb:b=false)(he:e=false)(h:Q W vp vr vk):J9 Q w1 true m x y z a b e (.tuple #[vp,vr,vk]) um ux uy uz ua ub ue W:=by
 subst hm hx hy hz ha hb he
 exact⟨fun h=>Bool.noConfusion h,fun _=>⟨vp,vr,vk,h,rfl,fun h=>Bool.noConfusion h,fun h=>Bool.noConfusion h,fun h=>Bool.noConfusion h,fun h=>Bool.noConfusion h,fun h=>Bool.noConfusion h,fun h=>Bool.noConfusion h,fun h=>Bool.noConfusion h⟩⟩
theorem J9.call2(hx:x=false)(hy:y=false)(hz:z=false)(ha:a=false)(hb:b=false)(he:e=false)(h:Q W vp vr vk):J9 Q w1 true true x y z a b e (.tuple #[vp,vr,vk]) (.tuple #[vp,vr,vk]) ux uy uz ua ub ue W:=by
 subst hx hy hz ha hb he
 exact⟨fun h=>Bool.noConfusion h,fun _=>⟨vp,vr,vk,h,rfl,fun _=>rfl,fun h=>Bool.noConfusion h,fun h=>Bool.noConfusion h,fun h=>Bool.noConfusion h,fun h=>Bool.noConfusion h,fun h=>Bool.noConfusion h,fun h=>Bool.noConfusion h⟩⟩
theorem J9.move(h:J9 Q w1 l m x y z a b e ul um ux uy uz ua ub ue W)(hl:l=true):J9 Q w1 l true x y z a b e ul ul ux uy uz ua ub ue W:=
 ⟨h.no,fun hl=>by obtain⟨p,r,k,h1,h2,_,h3⟩:=h.yes hl;exact⟨p,r,k,h1,h2,fun _=>h2,h3⟩⟩
theorem J9.get(h:J9 Q w1 l m x y z a b e ul um ux uy uz ua ub ue W)(hl:l=true)(hm:m=true):∃vp vr vk,um=.tuple #[vp,vr,vk]/\J9 Q w1 l m true y z a b e ul um vp uy uz ua ub ue W/\J9 Q w1 l m x true z a b e ul um ux vr uz ua ub ue W/\J9 Q w1 l m x y true a b e ul um ux uy vk ua ub ue W:=by
 obtain⟨p,r,k,h1,h2,h3,h4,h5,h6,h7⟩:=h.yes hl
 exact⟨p,r,k,h3 hm,⟨h.no,fun _=>⟨p,r,k,h1,h2,h3,fun _=>rfl,h5,h6,h7⟩⟩,⟨h.no,fun _=>⟨p,r,k,h1,h2,h3,h4,fun _=>rfl,h6,h7⟩⟩,⟨h.no,fun _=>⟨p,r,k,h1,h2,h3,h4,h5,fun _=>rfl,h7⟩⟩⟩
theorem J9.as0(h:J9 Q w1 l m x y z a b e ul um ux uy uz ua ub ue W)(hx:x=true):J9 Q w1 l m x y z true b e ul um ux uy uz ux ub ue W:=
 ⟨h.no,fun hl=>by obtain⟨p,r,k,h1,h2,h3,h4,h5,h6,_,h8,h9⟩:=h.yes hl;exact⟨p,r,k,h1,h2,h3,h4,h5,h6,fun _=>h4 hx,h8,h9⟩⟩
theorem J9.as1(h:J9 Q w1 l m x y z a b e ul um ux uy uz ua ub ue W)(hy:y=true):J9 Q w1 l m x y z a true e ul um ux uy uz ua uy ue W:=
 ⟨h.no,fun hl=>by obtain⟨p,r,k,h1,h2,h3,h4,h5,h6,h7,_,h9⟩:=h.yes hl;exact⟨p,r,k,h1,h2,h3,h4,h5,h6,h7,fun _=>h5 hy,h9⟩⟩
theorem J9.as2(h:J9 Q w1 l m x y z a b e ul um ux uy uz ua ub ue W)(hz:z=true):J9 Q w1 l m x y z a b true ul um ux uy uz ua ub uz W:=
 ⟨h.no,fun hl=>by obtain⟨p,r,k,h1,h2,h3,h4,h5,h6,h7,h8,_⟩:=h.yes hl;exact⟨p,r,k,h1,h2,h3,h4,h5,h6,h7,h8,fun _=>h6 hz⟩⟩
theorem J9.fin(h:J9 Q w1 l m x y z a b e ul um ux uy uz ua ub ue W)(hl:l=true)(ha:a=true)(hb:b=true)(he:e=true):∃vp vr vk,Q W vp vr vk/\ua=vp/\ub=vr/\ue=vk:=by
 obtain⟨p,r,k,h1,_,_,_,_,_,h7,h8,h9⟩:=h.yes hl
 exact⟨p,r,k,h1,h7 ha,h8 hb,h9 he⟩
end
structure P4(Q:World->Value->Value->Value->Prop)(w1:World)(c m x y z a b e:Bool)(uc um ux uy uz ua ub ue:Value)(W:World):Prop where
 st:J9 Q w1 c m x y z a b e uc um ux uy uz ua ub ue W
 om:m=true->c=true
 ox:x=true->m=true
 oy:y=true->m=true
 oz:z=true->m=true
 oa:a=true->x=true
 ob:b=true->y=true
 oe:e=true->z=true
theorem Kj{a b:Bool}(h:a=true->b=true)(hb:b=false):a=false:=by
 cases a with
 |false=>rfl
 |true=>exact absurd ((h rfl).symm.trans hb) (by decide)
section
variable {Q:World->Value->Value->Value->Prop} {w1 W W':World} {c m x y z a b e:Bool} {uc um ux uy uz ua ub ue vp vr vk:Value}
theorem P4.start:P4 Q w1 false false false false false false false false uc um ux uy uz ua ub ue w1:=
 ⟨⟨fun _=>rfl,fun h=>Bool.noConfusion h⟩,id,id,id,id,id,id,id⟩
theorem P4.cells(hQ:∀W vp vr vk,Q W vp vr vk->Below w1.heap.size w1 W)(h:P4 Q w1 c m x y z a b e uc um ux uy uz ua ub ue W):∀b o k,b<w1.heap.size->W.cell? ⟨b,o,k⟩=w1.cell? ⟨b,o,k⟩:=by
 cases c with
 |false=>rw[h.st.no rfl];intros;rfl
 |true=>obtain⟨vp,vr,vk,hq,_⟩:=h.st.yes rfl;exact fun b o k hb=>(hQ _ _ _ _ hq).cell (p:=⟨b,o,k⟩) hb
theorem P4.call(h:P4 Q w1 c m x y z a b e uc um ux uy uz ua ub ue W)(hc:c=false):W=w1/\∀{W' vp vr vk},Q W' vp vr vk->P4 Q w1 true m x y z a b e (.tuple #[vp,vr,vk]) um ux uy uz ua ub ue W':=by
 have hm:=Kj h.om hc
 have hx:=Kj h.ox hm
 have hy:=Kj h.oy hm
 have hz:=Kj h.oz hm
 exact⟨h.st.no hc,fun hq=>⟨J9.call hm hx hy hz (Kj h.oa hx) (Kj h.ob hy) (Kj h.oe hz) hq,fun _=>rfl,h.ox,h.oy,h.oz,h.oa,h.ob,h.oe⟩⟩
theorem P4.call2(h:P4 Q w1 c c x y z a b e uc uc ux uy uz ua ub ue W)(hc:c=false):W=w1/\∀{W' vp vr vk},Q W' vp vr vk->P4 Q w1 true true x y z a b e (.tuple #[vp,vr,vk]) (.tuple #[vp,vr,vk]) ux uy uz ua ub ue W':=by
 have hx:=Kj h.ox hc
 have hy:=Kj h.oy hc
 have hz:=Kj h.oz hc
 exact⟨h.st.no hc,fun hq=>⟨J9.call2 hx hy hz (Kj h.oa hx) (Kj h.ob hy) (Kj h.oe hz) hq,fun _=>rfl,fun _=>rfl,fun _=>rfl,fun _=>rfl,h.oa,h.ob,h.oe⟩⟩
theorem P4.move(h:P4 Q w1 c m x y z a b e uc um ux uy uz ua ub ue W)(hc:c=true):P4 Q w1 c true x y z a b e uc uc ux uy uz ua ub ue W:=
 ⟨h.st.move hc,fun _=>hc,fun _=>rfl,fun _=>rfl,fun _=>rfl,h.oa,h.ob,h.oe⟩
theorem P4.get(h:P4 Q w1 c m x y z a b e uc um ux uy uz ua ub ue W)(hm:m=true):∃vp vr vk,um=.tuple #[vp,vr,vk]/\P4 Q w1 c m true y z a b e uc um vp uy uz ua ub ue W/\P4 Q w1 c m x true z a b e uc um ux vr uz ua ub ue W/\P4 Q w1 c m x y true a b e uc um ux uy vk ua ub ue W:=by
 obtain⟨vp,vr,vk,e1,h1,h2,h3⟩:=h.st.get (h.om hm) hm
 exact⟨vp,vr,vk,e1,⟨h1,h.om,fun _=>hm,h.oy,h.oz,fun _=>rfl,h.ob,h.oe⟩,⟨h2,h.om,h.ox,fun _=>hm,h.oz,h.oa,fun _=>rfl,h.oe⟩,⟨h3,h.om,h.ox,h.oy,fun _=>hm,h.oa,h.ob,fun _=>rfl⟩⟩
theorem P4.as0(h:P4 Q w1 c m x y z a b e uc um ux uy uz ua ub ue W)(hx:x=true):P4 Q w1 c m x y z true b e uc um ux uy uz ux ub ue W:=⟨h.st.as0 hx,h.om,h.ox,h.oy,h.oz,fun _=>hx,h.ob,h.oe⟩
theorem P4.as1(h:P4 Q w1 c m x y z a b e uc um ux uy uz ua ub ue W)(hy:y=true):P4 Q w1 c m x y z a true e uc um ux uy uz ua uy ue W:=⟨h.st.as1 hy,h.om,h.ox,h.oy,h.oz,h.oa,fun _=>hy,h.oe⟩
theorem P4.as2(h:P4 Q w1 c m x y z a b e uc um ux uy uz ua ub ue W)(hz:z=true):P4 Q w1 c m x y z a b true uc um ux uy uz ua ub uz W:=⟨h.st.as2 hz,h.om,h.ox,h.oy,h.oz,h.oa,h.ob,fun _=>hz⟩
end
def RK(Q:World->Value->Value->Value->Prop)(w1:World)(c m:Nat)(l:Nat->Bool)(u:Nat->Value)(W:World):Prop:=
 P4 Q w1 (l c) (l m) (l (m+1)) (l (m+2)) (l (m+3)) (l (m+4)) (l (m+5)) (l (m+6)) (u c) (u m) (u (m+1)) (u (m+2)) (u (m+3)) (u (m+4)) (u (m+5)) (u (m+6)) W
section
variable {P:Program} {ops:Array Oper} {Q:Exit->Act->World->Prop} {a:Act} {mk:(Nat->Value)->Act} {G:World->Prop} {K:World->Value->Value->Value->Prop} {w1:World} {c m:Nat}
theorem rgT{id:Nat}(K:World->Value->Value->Value->Prop)(c m:Nat){w:World}(hQ:∀W vp vr vk,K W vp vr vk->Below w.drew.heap.size w.drew W)(h:Sq P ops Q a mk (RK K w.drew c m) (Jz w) ops.toList 0 [])
  (hc:(P.follows .mixedOrders && (List.range ops.size).all (fun i=>((ops[i]?).map fun o=>o.after.all fun e=>!Region.binds .any e || decide (e.on<i)).getD true) && Gc a.tmps.size ops.toList (Di ops.toList))=true:=by kernel_rfl)
  (hmk:∀u,Bt a (Di ops.toList) u=mk u:=by intro u;dsimp only[Bt,Di,Bq,List.set,Nat.zero_add,Nat.reduceAdd,List.length_cons,List.length_nil]):(Code.region id ops true).wp P Q a w:=
 rgF (RK K w.drew c m) (Jz w) (fun l u W h b o k hb=>by rw[P4.cells hQ h b o k (by simpa using hb),World.cell?_drew]) P4.start h hc hmk
variable {o:Oper} {os:List Oper} {i:Nat} {ps:List (Value->Prop)} {v:Value}
theorem sqS(v:Value){R:(Nat->Bool)->(Nat->Value)->World->Prop}(k:Sq P ops Q a mk R G os (i+1) (ps++[fun x=>x=v]))(h:St P ops Q a mk R G i o ps (fun x=>x=v):=by
  intro l u W hl hp hF hG hi K hK
  first|(simp[Region.binds,Fb]at hp;done)|simp[Region.binds,Fb]at hp|clear hp
  go_simp
  rw[if_pos (by omega)]
  go_simp
  exact hK _ _ _ rfl hF.o (by first|rfl|(simp[Act.put,hp];done)|(simp[Act.put,hp];exact rfl))):Sq P ops Q a mk R G (o::os) i ps:=⟨_,h,k⟩
theorem sqK{C:Prop}(X:C)(k:Sq P ops Q a mk (RK K w1 c m) G os (i+1) (ps++[fun _=>True]))(h:C->St P ops Q a mk (RK K w1 c m) G i o ps (fun _=>True):=by
  intro X l u W hl hp hF hG hi K9 hK
  obtain⟨hW,f⟩:=P4.call hF.o hl
  first|(simp[Region.binds,Fb]at hp;done)|simp[Region.binds,Fb]at hp|clear hp
  clear hG hi hF
  subst hW
  go_simp
  refine X.mono ?_
  rintro e w5 hp5
  obtain⟨vp,vr,vk,rfl,hq5⟩:=hp5.q
  go_simp
  exact hK _ _ _ True.intro (f hq5) (by first|rfl|(simp[Act.put,hp];done)|(simp[Act.put,hp];exact rfl))):Sq P ops Q a mk (RK K w1 c m) G (o::os) i ps:=⟨_,h X,k⟩
theorem Qnv{C:Prop}(X:C)(k:Sq P ops Q a mk (RK K w1 c m) G os (i+1) (ps++[fun _=>True]))(h:C->St P ops Q a mk (RK K w1 c m) G i o ps (fun _=>True):=by
  intro X l u W hl hp hF hG hi K9 hK
  obtain⟨hW,f⟩:=P4.call2 hF.o hl
  first|(simp[Region.binds,Fb]at hp;done)|simp[Region.binds,Fb]at hp|clear hp
  clear hG hi hF
  subst hW
  go_simp
  refine X.mono ?_
  rintro e w5 hp5
  obtain⟨vp,vr,vk,rfl,hq5⟩:=hp5.q
  go_simp
  exact hK _ _ _ True.intro (f hq5) (by first|rfl|(simp[Act.put,hp];done)|(simp[Act.put,hp];exact rfl))):Sq P ops Q a mk (RK K w1 c m) G (o::os) i ps:=⟨_,h X,k⟩
theorem sqM(k:Sq P ops Q a mk (RK K w1 c m) G os (i+1) (ps++[fun _=>True]))(h:St P ops Q a mk (RK K w1 c m) G i o ps (fun _=>True):=by
  intro l u W hl hp hF hG hi K9 hK
  simp[Region.binds,Fb]at hp
  have g:=P4.move hF.o (by simp[hp])
  clear hG hi hF
  go_simp
  exact hK _ _ _ True.intro g (by first|(simp[Act.put,hp];done)|(simp[Act.put,hp];exact rfl))):Sq P ops Q a mk (RK K w1 c m) G (o::os) i ps:=⟨_,h,k⟩
theorem sqP(k:Sq P ops Q a mk (RK K w1 c m) G os (i+1) (ps++[fun _=>True]))(h:St P ops Q a mk (RK K w1 c m) G i o ps (fun _=>True):=by
  intro l u W hl hp hF hG hi K9 hK
  simp[Region.binds,Fb]at hp
  obtain⟨vp,vr,vk,um,g0,g1,g2⟩:=P4.get hF.o (by simp[hp])
  clear hG hi hF
  try simp only[Nat.reduceAdd]at um
  simp only[um]
  go_simp
  first
   |exact hK _ _ _ True.intro g0 (by first|(simp[Act.put,hp,um];done)|(simp[Act.put,hp,um];exact rfl))
   |exact hK _ _ _ True.intro g1 (by first|(simp[Act.put,hp,um];done)|(simp[Act.put,hp,um];exact rfl))
   |exact hK _ _ _ True.intro g2 (by first|(simp[Act.put,hp,um];done)|(simp[Act.put,hp,um];exact rfl))):Sq P ops Q a mk (RK K w1 c m) G (o::os) i ps:=⟨_,h,k⟩
theorem sqA(k:Sq P ops Q a mk (RK K w1 c m) G os (i+1) (ps++[fun _=>True]))(h:St P ops Q a mk (RK K w1 c m) G i o ps (fun _=>True):=by
  intro l u W hl hp hF hG hi K9 hK
  simp[Region.binds,Fb]at hp
  go_simp
  first
   |exact hK _ _ _ True.intro (P4.as0 hF.o (by simp[hp];done)) (by first|(simp[Act.put,hp];done)|(simp[Act.put,hp];exact rfl))
   |exact hK _ _ _ True.intro (P4.as1 hF.o (by simp[hp];done)) (by first|(simp[Act.put,hp];done)|(simp[Act.put,hp];exact rfl))
   |exact hK _ _ _ True.intro (P4.as2 hF.o (by simp[hp];done)) (by first|(simp[Act.put,hp];done)|(simp[Act.put,hp];exact rfl))):Sq P ops Q a mk (RK K w1 c m) G (o::os) i ps:=⟨_,h,k⟩
theorem RK.fin{l:Nat->Bool}{u:Nat->Value}{W:World}{n:Nat}(h:RK K w1 c m l u W)(hl:∀j,j<n->l j=true)(hn:m+7<=n)(hc:c<n):∃vp vr vk,K W vp vr vk/\u (m+4)=vp/\u (m+5)=vr/\u (m+6)=vk:=
 J9.fin (P4.st h) (hl _ hc) (hl _ (by omega)) (hl _ (by omega)) (hl _ (by omega))
end
theorem Tryz.sizeBuilder:(prog.info? 195).map (·.size)=some 2:=aN
theorem Tryz.liesBuilder:liesAt prog prog.depth 195 (2 / prog.cellsOf 195) 0 195 1=true:=aN
theorem Tryz.cellsByte:prog.cellsOf 5=1:=aN
section
variable {P:Program}
end
theorem Qak(a b:List (List UInt8)):By (a++b)=By a++By b:=by simp[By]
structure PqS(w1:World)(g q:Nat)(code:List UInt8)(pk:Bool)(W:World):Prop where
 gr:w1.grownBy W (some g)
 rd:N5 W g (if pk then q+1 else q) code
def PQ(w1:World)(g q:Nat)(code:List UInt8)(p:Nat)(l:Nat->Bool)(u:Nat->Value)(W:World):Prop:=PqS w1 g q code (l p) W
theorem PQ.to{w1 W:World}{g q:Nat}{code:List UInt8}{p:Nat}{l:Nat->Bool}{u:Nat->Value}(h:PQ w1 g q code p l u W):PqS w1 g q code (l p) W:=h
theorem PqS.below{w1 W W':World}{g q:Nat}{code:List UInt8}{pk:Bool}(h:PqS w1 g q code pk W)(hb:Below W.heap.size W W'):PqS w1 g q code pk W':=
 ⟨Ae h.gr (Cc hb _),h.rd.below hb⟩
theorem PqS.pick{w1 W w':World}{g q:Nat}{code:List UInt8}(h:PqS w1 g q code false W)(hw:Qd2 W g q w'):PqS w1 g q code true w':=by
 obtain⟨k,rfl⟩:=hw
 obtain⟨h1,h2⟩:=Pj h.rd k
 exact⟨Ae h.gr h2,h1⟩
section
variable {P:Program} {ops:Array Oper} {Q:Exit->Act->World->Prop} {a:Act} {mk:(Nat->Value)->Act} {G:World->Prop} {w1:World} {g q:Nat} {code:List UInt8} {p:Nat}
theorem rgQ{id:Nat}(p:Nat){w:World}(hR:N5 w g q code)(h:Sq P ops Q a mk (PQ w g q code p) (fun W=>∀b o k,b<w.heap.size->¬(b=g)->W.cell? ⟨b,o,k⟩=w.cell? ⟨b,o,k⟩) ops.toList 0 [])
  (hc:(P.follows .mixedOrders && (List.range ops.size).all (fun i=>((ops[i]?).map fun o=>o.after.all fun e=>!Region.binds .any e || decide (e.on<i)).getD true) && Gc a.tmps.size ops.toList (Di ops.toList))=true:=by kernel_rfl)
  (hmk:∀u,Bt a (Di ops.toList) u=mk u:=by intro u;dsimp only[Bt,Di,Bq,List.set,Nat.zero_add,Nat.reduceAdd,List.length_cons,List.length_nil]):(Code.region id ops true).wp P Q a w:=
 rgF (PQ w g q code p) _ (fun _ _ W h b o k hb hne=>World.cell?_of_block (a:=⟨b,o,k⟩) ((PQ.to h).gr.block b hb fun e=>hne (Option.some.inj e))) ⟨Gx (Cc (Ao _ _) _),hR⟩ h hc hmk
variable {o:Oper} {os:List Oper} {i:Nat} {ps:List (Value->Prop)} {v:Value}
theorem Qnt{C:World->Prop}(X:∀W,N5 W g q code->C W)(k:Sq P ops Q a mk (PQ w1 g q code p) G os (i+1) (ps++[fun z=>z=v]))(h:(∀W,N5 W g q code->C W)->St P ops Q a mk (PQ w1 g q code p) G i o ps (fun z=>z=v):=by
  intro X l u W hl hp hF hG hi K9 hK
  have h:=PQ.to hF.o
  rw[hl]at h
  have HX:=X W h.rd
  have Hh:=Aa (fun w' (hw:Qd2 W _ _ w')=>h.pick hw)
  first|(simp[Region.binds,Fb]at hp;done)|simp[Region.binds,Fb]at hp|clear hp
  clear hG hi hF h
  go_simp
  refine HX.mono ?_
  rintro e w' ⟨rfl,hw⟩
  exact hK _ _ _ rfl (Hh.o _ hw) (by first|rfl|(simp[Act.put,hp];done)|(simp[Act.put,hp];exact rfl))):Sq P ops Q a mk (PQ w1 g q code p) G (o::os) i ps:=⟨_,h X,k⟩
theorem sqQ{C:World->Prop}(X:∀W,w1.grownBy W (some g)->C W)(k:Sq P ops Q a mk (PQ w1 g q code p) G os (i+1) (ps++[fun z=>z=v]))(h:(∀W,w1.grownBy W (some g)->C W)->St P ops Q a mk (PQ w1 g q code p) G i o ps (fun z=>z=v):=by
  intro X l u W hl hp hF hG hi K9 hK
  have h:=PQ.to hF.o
  have HX:=X W h.gr
  have Hh:=Aa (fun w' (hw:Below W.heap.size W w')=>h.below hw)
  first|(simp[Region.binds,Fb]at hp;done)|simp[Region.binds,Fb]at hp|clear hp
  clear hG hi hF h
  go_simp
  refine HX.mono ?_
  rintro e w' ⟨rfl,hw⟩
  exact hK _ _ _ rfl (Hh.o _ hw) (by first|rfl|(simp[Act.put,hp];done)|(simp[Act.put,hp];exact rfl))):Sq P ops Q a mk (PQ w1 g q code p) G (o::os) i ps:=⟨_,h X,k⟩
theorem dnQ{b:Act}(h:∀W,Hid (PqS w1 g q code true W)->Q .normal b W)(hi:p<i)(e:∀u,Xw ps 0 u->mk u=b:=by
  intro u h
  simp only[Xw,List.nil_append,List.cons_append,Nat.zero_add,Nat.reduceAdd]at h
  simp only[h]
  exact rfl):Sq P ops Q a mk (PQ w1 g q code p) G [] i ps:=fun l u W hl hu hF=>by
 have hF:=PQ.to hF
 rw[hl p hi]at hF
 rw[e u hu]
 exact h W hF
end
end Go.Proofs.YtmmhmlmfhpfgbaaGreatDoor
