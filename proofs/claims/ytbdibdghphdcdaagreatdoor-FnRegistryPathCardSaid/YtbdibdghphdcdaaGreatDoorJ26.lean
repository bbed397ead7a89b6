/- Texts joined. Conditions: as each theorem names them. -/
import Derived.Test.YtbdibdghphdcdaaGreatDoorJ24
set_option maxRecDepth 100000
set_option maxHeartbeats 32000000
set_option linter.unusedVariables false
set_option linter.unusedSimpArgs false
namespace Go.Proofs.YtbdibdghphdcdaaGreatDoor
open Go.RowKit Go.Proofs.Tryz
section
attribute [local go_sem] Qo7 Qok Qoa Ql9 ByteArray.mk_append_mk
def DtC(xs:List (Ty × Value))(xv:Value)(k:Kd)(d:Int)(N B:Nat):Prop:=∀(g p:Nat) (W:World),Gl W xv xs->Fg W g p->p+B<=900000000 ->
 Calls prog 48 #[g,xv,.string ⟨(Be k).toArray⟩,.int .i64 d] W (Ka (Af xs) k N B W g p)
theorem Qbw{W:World}{b b' k n:Nat}{e:TypeId}{v:Value}{xs:List Value}(h:W.ownsRow b e k v n xs)(hb:b'<=b):W.ownsRow b' e k v n xs:=by
 obtain⟨h0,h|⟨g,cap,cur,h1,h2,h3⟩⟩:=h
 ·exact⟨h0,.inl h⟩
 exact⟨h0,.inr ⟨g,cap,cur,h1,ad hb h2,h3⟩⟩
theorem Qfc(W:World)(T:TypeId)(u:Value):(W.alloc (.cells #[u] T)).ownsRow W.heap.size T 1 (.slice (W,0) 1 1) 1 [u]:=
 ⟨rfl,.inr ⟨W.heap.size,1,#[u],rfl,An _,heap_alloc_new W _,An _,by unfold maxLen;omega,rfl,rfl⟩⟩
section
variable {base B:Nat} {W W':World} {h0 h1:Value}
theorem Ej.putT{xs:List (Nat × SV)}{ku kv:Value}(h:Ej base B W h0 h1 (.slice none 0 0) (.slice none 0 0) ku kv [] xs)(g:Nat):
  Ej base B ((W.alloc (.cells #[(g:Int)] 3)).setCell ⟨B,2,none⟩ (.slice (W,0) 1 1)) h0 h1 (.slice (W,0) 1 1) (.slice (W,0) 1 1) ku kv [g] xs:=by
 have hb:Below W W (W.alloc (.cells #[(g:Int)] 3)):=(Ap _ _).alloc (An _) _;have h':=h.after hb;refine Ej.set2 (tu:=.slice none 0 0) ⟨h'.lt,h'.bs,h'.hB,h'.bk,h'.c0,h'.c1,h'.c2,h'.c3,Qbw (Qfc W _ _) h.bs,h'.row,fun x hx=>(h.kids x hx).mono (fun c hc hl=>⟨hc.1,hc.2.1,fun e=>by injection e with e;simp only at e;omega⟩) |>.after hb⟩
theorem Ej.putK{gs:List Nat}{tv:Value}(h:Ej base B W h0 h1 tv tv (.slice none 0 0) (.slice none 0 0) gs []){b:Nat}{v:SV}(hv:Fv (fun c=>base<=c/\tv.ownBlock≠some c) W b v):
  Ej base B ((W.alloc (.cells #[b] 62)).setCell ⟨B,3,none⟩ (.slice (W,0) 1 1)) h0 h1 tv tv (.slice (W,0) 1 1) (.slice (W,0) 1 1) gs [(b,v)]:=by
 have hb:Below W W (W.alloc (.cells #[b] 62)):=(Ap _ _).alloc (An _) _;have h':=h.after hb;refine Ej.set3 (ku:=.slice none 0 0) ⟨h'.lt,h'.bs,h'.hB,h'.bk,h'.c0,h'.c1,h'.c2,h'.c3,h'.tags,Qbw (Qfc W _ _) h.bs,fun x hx=>?_⟩;rw[aq]at hx;subst hx;exact(hv.mono (Q:=fun c=>base<=c/\(Value.slice (W,0) 1 1).ownBlock≠some c/\tv.ownBlock≠some c) fun c hc hl=>⟨hc.1,fun e=>by injection e with e;simp only at e;omega,hc.2⟩).after hb
end
structure Qn8(g p B:Nat)(fs:List Fd)(W1:World)(lc lb ls:Bool)(ub:Value)(W:World):Prop where
 s0:lc=false->W=W1
 s1:lc=true->lb=false->Fg W g p/\W1.grownBy W (some g)
 s2:lb=true->ls=false->∃W8,∃f∈fs,W=W8.alloc (.cells #[(f.tag:Int)] 3)/\ub=.slice (some ⟨W8.heap.size,0,none⟩) 1 1/\Fg W8 g p/\W1.grownBy W8 (some g)
 s3:ls=true->∃W8,∃f∈fs,W=(W8.alloc (.cells #[(f.tag:Int)] 3)).setCell ⟨B,2,none⟩ (.slice (some ⟨W8.heap.size,0,none⟩) 1 1)/\Fg W8 g p/\W1.grownBy W8 (some g)
theorem Qn8.old{g p B:Nat}{fs:List Fd}{W1 W:World}{lc lb ls:Bool}{ub:Value}(h:Qn8 g p B fs W1 lc lb ls ub W)(hs:ls=false){b o:Nat}{u:Value}(hb:b<W1.heap.size)(hg:b≠g)(hu:W1.cell? ⟨b,o,none⟩=some u):W.cell? ⟨b,o,none⟩=some u:=by
 have hn:some b≠some g:=fun e=>hg (by injection e);cases ec:lc with
 |false=>rw[h.s0 ec];exact hu
 |true=>
  cases eb:lb with
  |false=>exact(h.s1 ec eb).2.cell hu hn
  |true=>
   obtain⟨W8,f,_,rfl,_,_,h8⟩:=h.s2 eb hs;exact(((Ap W8.heap.size W8).alloc (An _) _).cell (p:=⟨b,o,none⟩) (ac hb h8.size)).trans (h8.cell hu hn)
theorem Qnx(xs:List (Ty × Value))(A0:Option Addr)(c0:Nat)(k:Kd)(hk:Cq k)(hsg:k.signs=[])(hbs:k.base=[64])(nm:List UInt8)(fs:List Fd)(A9:Option Addr)(c9:Nat)(hx:D8 xs k.name=some (⟨69,nm,fs⟩,.slice A9 fs.length c9))(htg:∀f∈fs,Av fs f.tag=some f)(h200:∀f∈fs,f.tag<=200)(hfk:∀f∈fs,(Be f.kind).length<=20)(hn0:0<fs.length)(hn8:fs.length<=8)(d:Int)(hd:-1000<=d)(hd2:d<=1000)(N:Nat):DtC xs (.slice A0 xs.length c0) k d (N+1) 100:=by
 intro g p w hsc hR hp;have hgl:=hR.lt;have HR:=Aa hR;have HSc:=Aa hsc
 have Hr:=Aa (show ∀W,Gl W (.slice A0 xs.length c0) xs->Calls prog 75 #[.slice A0 xs.length c0,.string ⟨(Be k).toArray⟩] W fun e w'=>e=.returned (.tuple #[.agg #[.int .u8 69,nm,.slice A9 fs.length c9],.bool true])/\Below W W w' from fun W hW=>by
  have h:=Fb (.slice A0 xs.length c0) xs k W hW hk;rw[show J6 xs k=some (⟨69,nm,fs⟩,.slice A9 fs.length c9)from by unfold J6;rw[if_pos ⟨hsg,hbs⟩];exact hx]at h;exact h)
 have HFd:=@Aa (∀W,Gl W (.slice A0 xs.length c0) xs->Dv W (.slice A9 fs.length c9) fs) (fun W hW=>by obtain⟨_,_,_,_,_,hf⟩:=hW;exact hf _ (Cu hx).1);have hft:=(Cu hx).2.2;have hkl:(Be k).length<=100:=cj;have Hok:=Aa (fun f (hf:f∈fs)=>Jf.enm (S:=Af xs) (d:=N) hsg hbs hft rfl (htg f hf));have Hsv:=Aa (fun g=>Re (Af xs) k g);have Hh2:=Aa h200;have Hfk:=Aa hfk;generalize Be k=kb at *;obtain⟨xv,hxv⟩:∃xv:Value,xv=.slice A0 xs.length c0:=⟨_,rfl⟩
 rw[<-hxv]at HSc Hr HFd ⊢;clear hR hsc hk hsg hbs hx hft htg h200 hfk hxv;go_enter func48,ntmps48;go_wp2_with fail;refine(Hr.o _ HSc.o).mono ?_;rintro e w1 ⟨rfl,hb1⟩;have HR1:=Aa (HR.o.below hb1);have Hb1:=Aa hb1;have hz1:=hb1.size;clear hb1;have hcv:=fun W=>Mo W (w1.heap.size+1) 1 69;obtain⟨W3,hW3⟩:∃W3,W3=((w1.alloc (.cells #[.int .u8 69,nm,.slice A9 fs.length c9] 86)).alloc (.cells #[.int .u8 69] 5)).alloc (.cells #[kb,([69]:List UInt8),.slice none 0 0,.slice none 0 0] 99):=⟨_,rfl⟩
 have hz3:W3.heap.size=w1.heap.size+3:=ee;have b13:Below w1 w1 W3:=hH
 have HS3:=Aa (show Ej (w1.heap.size+3) (w1.heap.size+2) W3 kb ([69]:List UInt8) (.slice none 0 0) (.slice none 0 0) (.slice none 0 0) (.slice none 0 0) [] []from by
  have:=Ej.new (W:=(w1.alloc (.cells #[.int .u8 69,nm,.slice A9 fs.length c9] 86)).alloc (.cells #[.int .u8 69] 5)) (T:=99) kb ([69]:List UInt8);rw[<-hW3]at this;simpa using this)
 have HR3:=Aa (HR1.o.below b13);have Hg3:=@Aa (w.grownBy W3 (some g)) (By (Hb1.o.trans (b13.mono Hb1.o.size)) _);have HX3:=@Aa (Gl W3 xv xs) (HSc.o.below (Hb1.o.trans (b13.mono Hb1.o.size)));have X2:=@Aa (W3.cell? (w1,2)=some (.slice A9 fs.length c9)) fP;have HF3:=Aa (HFd.o W3 HX3.o);have Hw3:=Aa hW3;clear hW3 b13 HR1;go_upto_region 5 with fail
 rw[<-Hw3.o];clear hcv Hw3;obtain⟨W4,hW4⟩:∃W4,W4=W3.drew:=⟨_,rfl⟩
 have hz4:W4.heap.size=w1.heap.size+3:=by rw[hW4];simpa using hz3
 have HS4:=@Aa (Ej (w1.heap.size+3) (w1.heap.size+2) W4 kb ([69]:List UInt8) (.slice none 0 0) (.slice none 0 0) (.slice none 0 0) (.slice none 0 0) [] []) (by rw[hW4];exact HS3.o.after (Ap _ _).drew);have HR4:=Aa (show Fg W4 g p by rw[hW4];exact HR3.o.ddrew);have Hg4:=Aa (show w.grownBy W4 (some g)by rw[hW4];exact Jd Hg3.o);have X4:=Aa (show W4.cell? (w1,2)=some (.slice A9 fs.length c9)by rw[hW4];exact X2.o);have HF4:=Aa (show Dv W4 (.slice A9 fs.length c9) fs by rw[hW4];exact HF3.o.below (Ap _ _).drew);have HW4:=Aa hW4;clear hW4 HS3 HR3 Hg3 X2 HF3;refine Jo [32,33,34,35,36,37,38,39,40,41,42,43,44,45,999]
  (fun ix v W=>match ix with|0=>v=(w1,2,0)|1=>v=(w1,2)|2=>v=.slice A9 fs.length c9|3=>v=g|4=>v=(w1,2)|5=>v=.slice A9 fs.length c9|6=>v=(fs.length:Int)|7=>∃x:Nat,v=(x:Int)/\x<fs.length|8=>∃x:Nat,x<fs.length/\∃b o:Nat,A9=some ⟨b,o,none⟩/\v=.pointer (some ⟨b,o+x*4,none⟩)|9=>∃x:Nat,x<fs.length/\∃b o:Nat,A9=some ⟨b,o,none⟩/\v=.pointer (some ⟨b,o+x*4,none⟩)|10=>∃f∈fs,v=(f.tag:Int)|12=>v=(w1,2,0)|13=>v=(w1,2,2)|_=>True)
  (fun L U W=>Qn8 g (p+1) (w1.heap.size+2) fs W4 (L 7) (L 11) (L 14) (U 11) W) (by rw[<-HW4.o];exact⟨fun _=>rfl,fun h=>Bool.noConfusion h,fun h=>Bool.noConfusion h,fun h=>Bool.noConfusion h⟩) ?_ ?_
 ·repeat (first|exact Ak.nil|(refine Ak.cons ?_ ?_;rotate_left))
  all_goals
   rintro L U W hL hpre HR Hdep K hK;first|(simp[Region.binds]at hpre;done)|simp[Region.binds]at hpre|clear hpre
  iterate 2
   ·exact ip
  ·have h14:L 14=false:=Az Hdep.o 14 11 rfl (Az Hdep.o 11 10 rfl (Az Hdep.o 10 9 rfl (Az Hdep.o 9 8 rfl (Az Hdep.o 8 2 rfl hL))));exact m7
  iterate 2
   ·exact ip
  ·have h7:L 7=false:=Az Hdep.o 7 6 rfl (Az Hdep.o 6 5 rfl hL);have h14:L 14=false:=Az Hdep.o 14 11 rfl (Az Hdep.o 11 10 rfl (Az Hdep.o 10 9 rfl (Az Hdep.o 9 8 rfl (Az Hdep.o 8 7 rfl h7))));exact m7
  ·exact ip
  ·have h11:L 11=false:=Az Hdep.o 11 10 rfl (Az Hdep.o 10 9 rfl (Az Hdep.o 9 8 rfl (Az Hdep.o 8 7 rfl hL)));have h14:L 14=false:=Az Hdep.o 14 11 rfl h11;have hW:=HR.o.s0 hL;subst hW;go_simp;refine(Bp g p (fs.length:Int) _ HR4.o aH aH aH).mono ?_;rintro e w5 ⟨x,rfl,hx1,_,hR5,hg5⟩;exact hK _ _ _ ⟨x,rfl,by omega⟩ Ac ⟨fun h=>by simp at h,fun _ _=>⟨hR5,hg5⟩,fun h=>absurd (h11.symm.trans aQ) aJ,fun h=>absurd (h14.symm.trans aQ) aJ⟩ aI
  ·obtain⟨x,u7,hx⟩:∃x:Nat,U 7=(x:Int)/\x<fs.length:=fS;have u2:U 2=.slice A9 fs.length c9:=fR;obtain⟨A5,c5,e5,hl5,hr5⟩:=HF4.o;injection e5 with e5 _ e6;subst e5 e6;obtain⟨b5,o5,rfl,_,_⟩:=Dv.at_ hr5 hx;have i1:(0:Int)<=(x:Int):=aH;have i2:(x:Int)<(fs.length:Int):=aH;simp only[u7,u2];go_simp;exact hK _ _ _ ⟨x,hx,b5,o5,rfl,rfl⟩ Ac HR.o (by simp[Act.put,hpre,u7,u2])
  ·obtain⟨x,hx,b5,o5,eA,u8⟩:∃x:Nat,x<fs.length/\∃b o:Nat,A9=some ⟨b,o,none⟩/\U 8=.pointer (some ⟨b,o+x*4,none⟩):=dN;simp only[u8];go_simp;exact hK _ _ _ ⟨x,hx,b5,o5,eA,rfl⟩ Ac HR.o (by simp[Act.put,hpre,u8,eA])
  ·obtain⟨x,hx,b5,o5,eA,u9⟩:∃x:Nat,x<fs.length/\∃b o:Nat,A9=some ⟨b,o,none⟩/\U 9=.pointer (some ⟨b,o+x*4,none⟩):=dN;have l9:L 9=true:=fr;have l8:L 8=true:=Pc (Az Hdep.o 9 8 rfl) l9;have l7:L 7=true:=Pc (Az Hdep.o 8 7 rfl) l8;have h11:L 11=false:=Az Hdep.o 11 10 rfl hL;obtain⟨hR5,hg5⟩:=HR.o.s1 l7 h11;obtain⟨A5,c5,e5,hl5,hr5⟩:=HF4.o.grown HR4.o hg5;injection e5 with e5 _ e6;subst e5 e6;obtain⟨b6,o6,eA6,_,y0,_,_,_⟩:=Dv.at_ hr5 hx;rw[eA]at eA6;injection eA6 with eA6;injection eA6 with e7 e8;subst e7 e8;simp only[u9];go_simp;exact hK _ _ _ ⟨_,ae hx,rfl⟩ Ac HR.o (by simp[Act.put,hpre,u9,eA])
  ·obtain⟨f,hf,u10⟩:∃f∈fs,U 10=(f.tag:Int):=dN;have l10:L 10=true:=fr;have l9:L 9=true:=Pc (Az Hdep.o 10 9 rfl) l10;have l8:L 8=true:=Pc (Az Hdep.o 9 8 rfl) l9;have l7:L 7=true:=Pc (Az Hdep.o 8 7 rfl) l8;have h14:L 14=false:=Az Hdep.o 14 11 rfl hL;obtain⟨hR5,hg5⟩:=HR.o.s1 l7 hL;simp only[u10];go_simp;exact hK _ _ _ Ac Ac ⟨fun h=>absurd (l7.symm.trans aQ) aJ,fun _ h=>by simp at h,fun _ _=>⟨W,f,hf,rfl,rfl,hR5,hg5⟩,fun h=>absurd (h14.symm.trans aQ) aJ⟩ (by simp[Act.put,hpre,u10])
  iterate 2
   ·exact ip
  ·have l11:L 11=true:=bB;have l10:L 10=true:=Pc (Az Hdep.o 11 10 rfl) l11;have l9:L 9=true:=Pc (Az Hdep.o 10 9 rfl) l10;have l8:L 8=true:=Pc (Az Hdep.o 9 8 rfl) l9;have l7:L 7=true:=Pc (Az Hdep.o 8 7 rfl) l8;obtain⟨W8,f,hf,hW,u11,hR8,hg8⟩:=HR.o.s2 l11 hL;subst hW;have hS8:=(HS4.o.gr hg8 aH).after ((Ap W8.heap.size W8).alloc (An _) (.cells #[(f.tag:Int)] 3));have x3:=hS8.c2;have x4:=hS8.bk.live 2;have x5:=hS8.lt;simp only[u11];go_simp;exact hK undef _ _ Ac Ac ⟨fun h=>absurd (l7.symm.trans aQ) aJ,fun _ h=>absurd (l11.symm.trans aQ) aJ,fun _ h=>by simp at h,fun _=>⟨W8,f,hf,by simp[hpre],hR8,hg8⟩⟩ (by simp[Act.put,hpre,u11])
 rintro L U W hL hφ hR;clear hφ;obtain⟨W8,f,hf,rfl,hR8,hg8⟩:=hR.s3 (hL 14 aJ)
 have HF:=Aa (show Ka (Af xs) k (N+1) 100 w g p (.returned (w1,2,0)) ((W8.alloc (.cells #[(f.tag:Int)] 3)).setCell ⟨w1.heap.size+2,2,none⟩ (.slice (W8,0) 1 1))from by
  have hdl:=Dk 2 f.tag (by have:=Hh2.o f hf;omega);have hS:=((HS4.o.gr hg8 aH).putT f.tag).done aK aK;have hg9:=Ae Hg4.o hg8;refine⟨w1.heap.size+2,.mk 69 [] f.tag [],p+1,rfl,Hok.o f hf,by simp[Bc,Ed,Jg];omega,by omega,?_,(hR8.dalloc _).row (Ao _ (w1.heap.size+2) 2 _) (base:=w1.heap.size+2) (fun k e=>by injection e with e;omega) aH,Fx (Ae hg9 (World.grownBy_alloc W8 _ _)) (Ao _ (w1.heap.size+2) 2 _) (base:=w1.heap.size+2) (fun k e=>by injection e with e;omega) aH⟩;rw[Hsv.o];exact hS.mono fun c hc _=>by omega)
 clear hR hL hR8 hg8;go_wp2_with fail;go_ret;exact HF.o
end
end Go.Proofs.YtbdibdghphdcdaaGreatDoor
