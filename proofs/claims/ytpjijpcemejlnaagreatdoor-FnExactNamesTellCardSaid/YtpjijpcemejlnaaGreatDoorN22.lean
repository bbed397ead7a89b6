/- Texts joined. Conditions: as each theorem names them. -/
import Derived.Test.YtpjijpcemejlnaaGreatDoorN21
set_option maxRecDepth 100000
set_option maxHeartbeats 32000000
set_option linter.unusedVariables false
set_option linter.unusedSimpArgs false
namespace Go.Proofs.YtpjijpcemejlnaaGreatDoor
open Go.RowKit Go.Proofs.Tryz
section
attribute [local go_sem] Qhn Qg5 Qgq Qe7 ByteArray.mk_append_mk
structure Vb(B:Nat)(W:World)(h0 h1 h2 h3:Value):Prop where
 lt:B<W.heap.size
 bk:N4 W B
 c0:W.cell? (B,0)=some h0
 c1:W.cell? (B,1)=some h1
 c2:W.cell? (B,2)=some h2
 c3:W.cell? (B,3)=some h3
theorem Vb.new{w:World}{h0 h1 h2 h3:Value}{T:TypeId}:Vb w.heap.size (w.alloc (.cells #[h0,h1,h2,h3] T)) h0 h1 h2 h3:=⟨by simp,N4.new _ _ _,by simp,by simp,by simp,by simp⟩
theorem Vb.grown{B:Nat}{W W':World}{h0 h1 h2 h3:Value}{row:Option Nat}(h:Vb B W h0 h1 h2 h3)(hg:W.grownBy W' row)(hn:some B≠row):Vb B W' h0 h1 h2 h3:=
 ⟨ac h.lt hg.size,h.bk.grown h.lt hg hn,hg.cell h.c0 hn,hg.cell h.c1 hn,hg.cell h.c2 hn,hg.cell h.c3 hn⟩
theorem Vb.after{B:Nat}{W W':World}{h0 h1 h2 h3:Value}(h:Vb B W h0 h1 h2 h3)(hb:Below W W W'):Vb B W' h0 h1 h2 h3:=h.grown (Cm hb none) aK
theorem Vb.set2{B:Nat}{W:World}{h0 h1 h2 h3:Value}(h:Vb B W h0 h1 h2 h3)(v:Value):Vb B (W.setCell ⟨B,2,none⟩ v) h0 h1 v h3:=by
 have hf:=h.bk.live 2;exact⟨by simpa using h.lt,h.bk.set _,by simp[go_sem,h.c0],by simp[go_sem,h.c1],by simp[go_sem,h.c2,hf],by simp[go_sem,h.c3]⟩
theorem Vb.set3{B:Nat}{W:World}{h0 h1 h2 h3:Value}(h:Vb B W h0 h1 h2 h3)(v:Value):Vb B (W.setCell ⟨B,3,none⟩ v) h0 h1 h2 v:=by
 have hf:=h.bk.live 3;exact⟨by simpa using h.lt,h.bk.set _,by simp[go_sem,h.c0],by simp[go_sem,h.c1],by simp[go_sem,h.c2],by simp[go_sem,h.c3,hf]⟩
theorem Nc.init{w:World}{b:Nat}{p:Value}{t:List UInt8}{bad:Bool}(h:E7 w b p t bad){T:TypeId}:Nc w b p w.heap.size t bad (w.alloc (.cells #[.int .u8 0,a8,.int .i64 0,.slice none 0 0] T)):=
 ⟨⟨h.grow ((At _ _).alloc (Ao _) _),Cm ((At _ _).alloc (Ao _) _) _⟩,Cq w [.int .u8 0,a8,.int .i64 0,.slice none 0 0] _,Ao _,by simp⟩
theorem Qfb(fs:List Fd)(t:List UInt8)(t1 t2:List UInt8)(b1 b2:Bool)(h1:t1=(Av [35] t false).getD t)(hb1:b1=(Av [35] t false).isNone)(h2:t2=t1.dropWhile Az)(hb2:b2=(b1 || !Fg 200 t1)):
  (match Al 35 t with
   |none=>none
   |some r=>match E0 fs r with|some (f,q)=>some (Vl.mk 69 [] f.tag [],q)|none=>none)=if b2 || (Bc fs (Ga t1)).isNone then none else some (.mk 69 [] (Ga t1) [],t2):=by
 rw[Bw]at h1 hb1;simp only[an,if_false]at h1 hb1;cases hy:Al 35 t with
 |none=>rw[hy]at hb1;simp at hb1;subst hb1 hb2;simp
 |some r=>
  rw[hy]at h1 hb1;simp at h1 hb1;subst h1 hb1 h2 hb2;simp only[Zj];cases Fg 200 t1 with
  |false=>simp
  |true=>
   simp only[if_true,Bool.false_or,Bool.not_true];cases hf:Bc fs (Ga t1)with
   |none=>simp
   |some f=>have:=(Cb hf).1;simp[this]
theorem Qec(w0:World)(b N:Nat)(p:Value)(S:List Ty)(x:PT)(hx:Pw w0 x)(h9:x.ty.sort=69)(t:List UInt8)(w:World)(hw:Below w0 w0 w)(hb:w0.heap.size<=b)(h:E7 w b p t false)(hl:t.length<=900)
  (q:Option (Vl × List UInt8)) (hq:q=Ha S (Aj S 1000 N) x.ty t):
  Calls prog 145 #[b,x.blk] w (Je w b p t (N+1) q):=by
 have HQ:=Aa (hq.trans (by unfold Ha;rw[if_pos h9]));have HS:=Aa h;have HW:=Aa hw;have hb0:=h.1;have hx0:=hx.1;have x0:=(hw.cell (p:=⟨x.blk,0,none⟩) hx0).trans hx.2.2.1;have hxw:x.blk<w.heap.size:=eh;have hxn:¬(x.blk=w.heap.size):=eh;have hxn2:¬(x.blk=w.heap.size+1):=eh;rw[h9]at x0;have x0':w.cell? (x.blk,0)=some (.int .u8 69):=x0;clear x0;have hm:=Dy 35 t false;have Hwt:=Aa (fun W (h:E7 W b p t false)=>Cv b p t [35] false W h aG);obtain⟨t1,ht1⟩:∃t1,t1=(Av [35] t false).getD t:=⟨_,rfl⟩
 obtain⟨b1,hb1⟩:∃b1,b1=(Av [35] t false).isNone:=⟨_,rfl⟩
 have HQ2:=Aa (HQ.o.trans (Qfb x.ty.fields t t1 (t1.dropWhile Az) b1 (b1 || !Fg 200 t1) ht1 hb1 rfl rfl));rw[<-ht1]at hm;rw[<-ht1,<-hb1]at Hwt;have Hn:=Aa (fun W (h:E7 W b p t1 b1)=>M2 b 200 p t1 b1 W h aG aJ);have hnn:=Vu t1;have hdr:=Vr Az t1;have Hf:=Aa (fun W (hW:Below w0 w0 W)=>Rq w0 x hx (Ga t1) W hW aG);have hdl:=Dh 5 (Ga t1) cw;generalize (b1 || !Fg 200 t1)=b2 at *;generalize t1.dropWhile Az=t2 at *;generalize Ga t1=n at *;clear ht1 hb1 h hw hq h9 HQ;go_enter func145,ntmps145;go_wp2_with fail;have F1:=Aa ((Nc.init HS.o (T:=47)).post ((At _ _).alloc (Ao _) (.cells #[.int .u8 69,a8,.int .i64 0,.slice none 0 0] 47)));have V1:=@Aa (Vb (w.heap.size+1) _ _ _ _ _) (by have:=Vb.new (w:=w.alloc (.cells #[.int .u8 0,a8,.int .i64 0,.slice none 0 0] 47)) (h0:=.int .u8 69) (h1:=a8) (h2:=.int .i64 0) (h3:=.slice none 0 0) (T:=47);simpa using this);refine(Hwt.o _ F1.o.1.1).mono ?_;rintro e w2 ⟨rfl,hs2⟩;have F2:=Aa (F1.o.step hb0 hs2);have V2:=Aa (V1.o.grown hs2.2 aN);clear hs2 F1 V1;go_wp2_with fail;refine(Hn.o _ F2.o.1.1).mono ?_;rintro e w3 ⟨rfl,hs3⟩;have F3:=Aa (F2.o.step hb0 hs3);have V3:=Aa (V2.o.grown hs3.2 aN);clear hs3 F2 V2;have c2:=V3.o.c2;have f2:=V3.o.bk.live 2;have l2:=V3.o.lt;go_wp2_with fail;have F4:=Aa (F3.o.app hb0 (A0 w3 (w.heap.size+1) 2 (n:Int)) (fun k e=>by injection e with e;omega));have V4:=Aa (V3.o.set2 (n:Int));refine(Hf.o _ (F4.o.1.env HW.o hb)).mono ?_;rintro e w4 ⟨fp,rfl,hfp,rfl⟩;cases hfo:Bc x.ty.fields n with
 |some g=>
  rw[hfo]at hfp HQ2;obtain⟨fb,fo,rfl,_,_⟩:=hfp;have d0:=V4.o.c0;have d1:=V4.o.c1;have d2:=V4.o.c2;have d3:=V4.o.c3;clear hfo c2 f2 l2;generalize w3.setCell ⟨w.heap.size+1,2,none⟩ (n:Int)=w4 at *;go_wp2_with ((with_reducible refine Ad (op:=⟨none,.store 47 _ _,_,_,_,none⟩) rfl 47 _ _ rfl w 0 [.int .u8 69,a8,(n:Int),.slice none 0 0] ?_ ?_ ?_ ?_ ?_ ?_);rfl;rfl;(exact F4.o.2.1);kernel_rfl;(simp[Value.oneCell']);intro w9 HS9)
  have Z:=Nc.fin (v:=.mk 69 [] n []) (sl:=.slice none 0 0) F4.o hb0 HS9.o (En.nil _ _);refine aE (v:=.agg (Gf (.mk 69 [] n []) (.slice none 0 0)).toArray) (Ax results145 _ _ w.heap.size _ _ rfl Z.2.2 underlying47 rfl aM) rfl ⟨.mk 69 [] n [],_,t2,rfl,Z.1,?_,?_,Ec aG aJ,by omega,by simp[Bh,D7,H9];omega⟩
  ·rw[HQ2.o];cases b2<;>exact Z.2.1
  rw[HQ2.o];cases b2<;>simp
 |none=>
  rw[hfo]at hfp HQ2;have hfp':fp=.pointer none:=hfp;subst hfp';have s2:=F4.o.1.1.2.2.2.2;have sb:=F4.o.1.1.2.1.live 2;have s0:=F4.o.1.1.1;clear hfo c2 f2 l2;generalize w3.setCell ⟨w.heap.size+1,2,none⟩ (n:Int)=w4 at *;have F5:=Aa (F4.o.step hb0 ⟨F4.o.1.1.setBad true,A0 _ b 2 (.bool true)⟩);have V5:=Aa (V4.o.grown (A0 w4 b 2 (.bool true)) aN);have d0:=V5.o.c0;have d1:=V5.o.c1;have d2:=V5.o.c2;have d3:=V5.o.c3;go_wp2_with ((with_reducible refine Ad (op:=⟨none,.store 47 _ _,_,_,_,none⟩) rfl 47 _ _ rfl w 0 [.int .u8 69,a8,(n:Int),.slice none 0 0] ?_ ?_ ?_ ?_ ?_ ?_);rfl;rfl;(exact F5.o.2.1);kernel_rfl;(simp[Value.oneCell']);intro w9 HS9)
  have Z:=Nc.fin (v:=.mk 69 [] n []) (sl:=.slice none 0 0) F5.o hb0 HS9.o (En.nil _ _);refine aE (v:=.agg (Gf (.mk 69 [] n []) (.slice none 0 0)).toArray) (Ax results145 _ _ w.heap.size _ _ rfl Z.2.2 underlying47 rfl aM) rfl ⟨.mk 69 [] n [],_,t2,rfl,Z.1,?_,?_,Ec aG aJ,by omega,by simp[Bh,D7,H9];omega⟩
  ·rw[HQ2.o];simpa using Z.2.1
  rw[HQ2.o];simp
def Qeu(q1:Option ((Fd × Vl) × List UInt8))(t2:List UInt8):Option (Vl × List UInt8):=match q1 with
 |none=>none
 |some (p,_)=>if (Av [62] t2 false).isNone then none else some (.mk 85 [] p.1.tag [p.2],(Av [62] t2 false).getD t2)
theorem Qf8(K:Kd->List UInt8->Option (Vl × List UInt8))(fs:List Fd)(t t1 t2:List UInt8)(b1:Bool)(q1:Option ((Fd × Vl) × List UInt8))(h1:t1=(Av [60] t false).getD t)(hb1:b1=(Av [60] t false).isNone)(h2:q1=if b1 then none else Cn K fs t1)(h3:∀y,q1=some y->t2=y.2):
  (match Al 60 t with
   |none=>none
   |some r=>match Cn K fs r with
    |none=>none
    |some (p,q)=>match Al 62 q with|some z=>some (Vl.mk 85 [] p.1.tag [p.2],z)|none=>none) =
  Qeu q1 t2:=by
 rw[Bw]at h1 hb1;simp only[an,if_false]at h1 hb1;cases hy:Al 60 t with
 |none=>rw[hy]at hb1;simp at hb1;subst hb1;simp at h2;subst h2;simp[Qeu]
 |some r=>
  rw[hy]at h1 hb1;simp at h1 hb1;subst h1 hb1;simp only[an,if_false]at h2;subst h2;simp only;cases hk:Cn K fs t1 with
  |none=>simp[Qeu]
  |some y=>
   obtain⟨p,q⟩:=y;obtain rfl:=h3 _ hk;simp only[Qeu,Bw,an,if_false];cases Al 62 t2<;>simp
structure Yq(w0 w:World)(b B X:Nat)(p:Value)(t:List UInt8)(bad:Bool)(g:Fd)(x:Vl)(fp:Value)(sl h2 h3:Value)(W:World):Prop where
 f:Nc w b p w.heap.size t bad W
 v:Vb B W (.int .u8 85) a8 h2 h3
 xr:W.rangeAt X 0 [.int .u8 61,a8,(g.tag:Int),sl]
 k:En (fun c=>B<c) W sl [x]
 p:Gl w0.heap.size W fp (some g)
 lw:Below w0 w0 W
theorem Yq.put{w0 w W:World}{b B X o:Nat}{p:Value}{t:List UInt8}{bad:Bool}{g:Fd}{x:Vl}{fp sl h2 h3 h2' h3':Value}(h:Yq w0 w b B X p t bad g x fp sl h2 h3 W)(u:Value)(hV:Vb B (W.setCell ⟨B,o,none⟩ u) (.int .u8 85) a8 h2' h3')
  (hb:b<w.heap.size) (hB:w.heap.size<B) (hX:B<X) (h0:w0.heap.size<=w.heap.size):Yq w0 w b B X p t bad g x fp sl h2' h3' (W.setCell ⟨B,o,none⟩ u):=by
 have hg:=A0 W B o u;have hlw:Below w0 w0 (W.setCell ⟨B,o,none⟩ u):=h.lw.grown hg h.lw.size fun k hk=>by injection hk with hk;omega
 exact⟨h.f.app hb hg (fun k e=>by injection e with e;omega),hV,Fh h.xr hg bX,h.k.grown hg (fun c hc e=>by injection e with e;omega),h.p.via h.lw hlw,hlw⟩
theorem Yq.drew{w0 w W:World}{b B X:Nat}{p:Value}{t:List UInt8}{bad:Bool}{g:Fd}{x:Vl}{fp sl h2 h3:Value}(h:Yq w0 w b B X p t bad g x fp sl h2 h3 W):Yq w0 w b B X p t bad g x fp sl h2 h3 W.drew:=
 ⟨h.f.post (At _ _).drew,h.v.after (At _ _).drew,h.xr,h.k.after (At _ _).drew,h.p.via h.lw h.lw.drew,h.lw.drew⟩
theorem Qdq(w0:World)(b N:Nat)(p:Value)(S:List Ty)(x:PT)(hx:Pw w0 x)(h5:x.ty.sort=85)(t:List UInt8)(w:World)(hw:Below w0 w0 w)(hb:w0.heap.size<=b)(h:E7 w b p t false)(hl:t.length<=900)(hN:t.length<=N)(hN2:N<=2000)
  (htg:∀f∈x.ty.fields,f.tag<=200) (H:∀f∈x.ty.fields,IvC w0 b p S N f.kind) (q:Option (Vl × List UInt8)) (hq:q=Ha S (Aj S 1000 N) x.ty t):
  Calls prog 145 #[b,x.blk] w (Je w b p t (N+1) q):=by
 have HQ:=Aa (hq.trans (by unfold Ha;rw[if_neg (by rw[h5];decide),if_pos h5]));have HS:=Aa h;have HW:=Aa hw;have hb0:=h.1;have hx0:=hx.1;have hww:=hw.size;have x0:=(hw.cell (p:=⟨x.blk,0,none⟩) hx0).trans hx.2.2.1;have hxw:x.blk<w.heap.size:=aG;have hxn:¬(x.blk=w.heap.size):=aG;have hxn2:¬(x.blk=w.heap.size+1):=aG;rw[h5]at x0;have x0':w.cell? (x.blk,0)=some (.int .u8 85):=x0;clear x0;have hm:=Dy 60 t false;have Hwt:=Aa (fun W (h:E7 W b p t false)=>Cv b p t [60] false W h aG);obtain⟨t1,ht1⟩:∃t1,t1=(Av [60] t false).getD t:=⟨_,rfl⟩
 obtain⟨b1,hb1⟩:∃b1,b1=(Av [60] t false).isNone:=⟨_,rfl⟩
 obtain⟨q1,hq1⟩:∃q1,q1=if b1 then none else Cn (Aj S 1000 N) x.ty.fields t1:=⟨_,rfl⟩
 have HQ2:=Aa (fun t2 h3=>HQ.o.trans (Qf8 (Aj S 1000 N) x.ty.fields t t1 t2 b1 q1 ht1 hb1 hq1 h3));rw[<-ht1]at hm;rw[<-ht1,<-hb1]at Hwt;have Hfd:=Aa (fun W (h1:Below w0 w0 W) (h2:E7 W b p t1 b1)=>Yp w0 b N p S x hx t1 W h1 hb b1 h2 aG (fun _=>by omega) hN2 htg H q1 hq1);clear ht1 hb1 h hw hq h5 HQ hq1 H;go_enter func145,ntmps145;go_wp2_with fail;have F1:=Aa ((Nc.init HS.o (T:=47)).post ((At _ _).alloc (Ao _) (.cells #[.int .u8 85,a8,.int .i64 0,.slice none 0 0] 47)));have V1:=@Aa (Vb (w.heap.size+1) _ _ _ _ _) (by have:=Vb.new (w:=w.alloc (.cells #[.int .u8 0,a8,.int .i64 0,.slice none 0 0] 47)) (h0:=.int .u8 85) (h1:=a8) (h2:=.int .i64 0) (h3:=.slice none 0 0) (T:=47);simpa using this);refine(Hwt.o _ F1.o.1.1).mono ?_;rintro e w2 ⟨rfl,hs2⟩;have F2:=Aa (F1.o.step hb0 hs2);have V2:=Aa (V1.o.grown hs2.2 aN);have hz2:w.heap.size+2<=w2.heap.size:=by have:=hs2.2.size;simp at this;omega
 clear hs2 F1 V1;go_wp2_with fail;refine(Hfd.o _ (F2.o.1.env HW.o hb) F2.o.1.1).mono ?_;rintro e w3 ⟨v,sl,fp,t2,rfl,hk3,hs3,hB3,hl3,hn3,hcase⟩;obtain⟨A7,c7,rfl⟩:=hk3.form;have F3:=Aa (F2.o.step hb0 hs3);have V3:=Aa (V2.o.grown hs3.2 aN);have Hk3:=Aa hk3;have hz3:w2.heap.size<=w3.heap.size:=hs3.2.size;clear hs3 F2 V2 hk3;unfold Ml;have hm3:=Dy 62 t2 q1.isNone;have Hwt2:=Aa (fun W (h:E7 W b p t2 q1.isNone)=>Cv b p t2 [62] q1.isNone W h aG);rcases hcase with⟨rfl,hq1⟩|⟨g,y,hfp,rfl,hfg,hBy,hy⟩
 ·have HQ3:=@Aa (q=none) (by rw[HQ2.o t2 (by rw[hq1];simp),hq1];rfl);have hw3:Av [62] t2 q1.isNone=none:=by rw[hq1,Bw];rfl
  rw[hw3]at Hwt2;simp only[Option.getD_none,Option.isNone_none]at Hwt2;clear hq1 hw3 HQ2 hB3;go_wp2_with fail;have F4:=Aa (F3.o.post ((At w3.heap.size w3).alloc (Ao _) (.cells #[.int .u8 (v.what.toNat:Int),v.text,(v.tag:Int),.slice A7 v.kids.length c7] 47)));have V4:=Aa (V3.o.after ((At w3.heap.size w3).alloc (Ao _) (.cells #[.int .u8 (v.what.toNat:Int),v.text,(v.tag:Int),.slice A7 v.kids.length c7] 47)));refine(Hwt2.o _ F4.o.1.1).mono ?_;rintro e w5 ⟨rfl,hs5⟩;have F5:=Aa (F4.o.step hb0 hs5);have V5:=Aa (V4.o.grown hs5.2 aN);have d0:=V5.o.c0;have d1:=V5.o.c1;have d2:=V5.o.c2;have d3:=V5.o.c3;clear hs5 F4 V4;go_wp2_with ((with_reducible refine Ad (op:=⟨none,.store 47 _ _,_,_,_,none⟩) rfl 47 _ _ rfl w 0 [.int .u8 85,a8,.int .i64 0,.slice none 0 0] ?_ ?_ ?_ ?_ ?_ ?_);rfl;rfl;(exact F5.o.2.1);kernel_rfl;(simp[Value.oneCell']);intro w9 HS9)
  have Z:=Nc.fin (v:=.mk 85 [] 0 []) (sl:=.slice none 0 0) F5.o hb0 HS9.o (En.nil _ _);exact aE (v:=.agg (Gf (.mk 85 [] 0 []) (.slice none 0 0)).toArray) (Ax results145 _ _ w.heap.size _ _ rfl Z.2.2 underlying47 rfl aM) rfl ⟨.mk 85 [] 0 [],_,t2,rfl,Z.1,by rw[HQ3.o];exact Z.2.1,by rw[HQ3.o];simp,Ec aJ aJ,by omega,by simp[Bh,D7,H9,Ap,Dp];omega⟩
 have HQ3:=Aa (HQ2.o t2 (fun z hz=>by rw[hy z hz]));obtain⟨t4,ht4⟩:∃t4,t4=(Av [62] t2 q1.isNone).getD t2:=⟨_,rfl⟩
 obtain⟨b4,hb4⟩:∃b4,b4=(Av [62] t2 q1.isNone).isNone:=⟨_,rfl⟩
 rw[<-ht4,<-hb4]at Hwt2;rw[<-ht4]at hm3
 have HQ4:=Aa (show q=if b4 then none else some (.mk 85 [] g.tag [y],t4)from by
  rw[HQ3.o];cases hq1:q1 with
  |none=>rw[hq1,Bw]at hb4;simp at hb4;subst hb4;rfl
  |some z=>
   obtain⟨z1,z2⟩:=z;have:=hy _ hq1;injection this with e1 e2;subst e1;rw[hq1]at ht4 hb4;unfold Qeu;simp only;rw[ht4,hb4];rfl)
 have hpl:=Rb (g,y);obtain⟨fb,fo,rfl,hfb,hfr⟩:=hfp;have HP3:=@Aa (Gl w0.heap.size w3 (.pointer (some ⟨fb,fo,none⟩)) (some g)) ⟨fb,fo,rfl,hfb,hfr⟩;have hgt:=htg g (Cb hfg).2;have HBy:=Aa hBy;clear ht4 hb4 HQ2 HQ3 hB3 hfr hy hBy hfg;simp only[Dm,Vl.what,Vl.text,Vl.tag,Vl.kids,List.length_singleton]at Hk3 hn3 ⊢;go_wp2_with fail;obtain⟨W4,hW4⟩:∃W4,W4=w3.alloc (.cells #[.int .u8 61,a8,(g.tag:Int),.slice A7 1 c7] 47):=⟨_,rfl⟩
 have hb4:Below w3 w3 W4:=by rw[hW4];exact(At _ _).alloc (Ao _) _
 have X4:=@Aa (W4.rangeAt w3 0 [.int .u8 61,a8,(g.tag:Int),.slice A7 1 c7]) (by rw[hW4];exact Cg w3 [.int .u8 61,a8,(g.tag:Int),.slice A7 1 c7] _);have hz4:w3.heap.size<W4.heap.size:=by rw[hW4];simp
 have F4:=Aa (F3.o.post hb4);have V4:=Aa (V3.o.after hb4);have Hk4:=Aa (Hk3.o.after hb4);have HP4:=Aa (HP3.o.via (F3.o.1.env HW.o hb) (F4.o.1.env HW.o hb));have hW4':w3.alloc (.cells #[.int .u8 ((61:UInt8).toNat:Int),([]:List UInt8),(g.tag:Int),.slice A7 1 c7] 47)=W4:=hW4.symm;first|rw[<-hW4]|rw[hW4']
 generalize w3.heap.size=BX at *;clear hW4 hW4' hb4 F3 V3 Hk3 HP3;refine(Hwt2.o _ F4.o.1.1).mono ?_;rintro e w5 ⟨rfl,hs5⟩;have F5:=Aa (F4.o.step hb0 hs5);have V5:=Aa (V4.o.grown hs5.2 aN)
 have U5:=Aa (show Yq w0 w b (w.heap.size+1) BX p t4 b4 g y (.pointer (some ⟨fb,fo,none⟩)) (.slice A7 1 c7) (.int .i64 0) (.slice none 0 0) w5 from
  ⟨F5.o,V5.o,Fh X4.o hs5.2 aN,(Hk4.o.grown hs5.2 (fun c hc e=>by injection e with e;omega)).mono (fun c hc _=>by omega),HP4.o.via (F4.o.1.env HW.o hb) (F5.o.1.env HW.o hb),F5.o.1.env HW.o hb⟩)
 clear hs5 F4 V4 X4 Hk4 HP4;go_wp2_with fail;refine N7 [107,108,109,110,111,112,113,999,114,998]
  (fun ix v W=>match ix with|0=>v=.pointer (some ⟨fb,fo,none⟩)|1=>v=.pointer (some ⟨fb,fo,none⟩)|2=>v=.pointer (some ⟨fb,fo,none⟩)|3=>v=(g.tag:Int)|4=>v=(BX,3)|5=>v=.slice A7 1 c7|6=>v=(w,1,2)|8=>v=(w,1,3)|_=>True)
  (fun L U W=>Yq w0 w b (w.heap.size+1) BX p t4 b4 g y (.pointer (some ⟨fb,fo,none⟩)) (.slice A7 1 c7) (if L 7=true then (g.tag:Int)else .int .i64 0) (if L 9=true then .slice A7 1 c7 else .slice none 0 0) W) (by simpa using U5.o.drew) ?_ ?_
 ·repeat (first|exact Aq.nil|(refine Aq.cons ?_ ?_;rotate_left))
  all_goals
   rintro L U W hL hpre HR Hdep K hK;have hU:=HR.o;have m3:=hU.xr 3 _ rfl;simp only[am]at m3;have fb0:W.cell? ⟨fb,fo,none⟩=(g.tag:Int):=by obtain⟨a1,a2,a3,_,a5⟩:=hU.p;injection a3 with a3;injection a3 with a3;injection a3 with a3 a4;subst a3 a4;simpa using Ac a5 0 rfl
   first|(simp[Region.binds]at hpre;done)|simp[Region.binds]at hpre|clear hpre
  iterate 7
   ·exact eW
  ·have q2:=hU.v.c2;have qf:=hU.v.bk.live 2;have ql:=hU.v.lt;have hst:=hU.put (g.tag:Int) (hU.v.set2 _) hb0 aG aG hww;exact io
  ·exact eW
  ·have q3:=hU.v.c3;have qf:=hU.v.bk.live 3;have ql:=hU.v.lt;have hst:=hU.put (.slice A7 1 c7) (hU.v.set3 _) hb0 aG aG hww;exact io
 rintro L U W hL hφ hR;clear hφ;have hU:=hR;simp only[hL 7 aJ,hL 9 aJ,if_true]at hU;have U6:=Aa hU;have d0:=hU.v.c0;have d1:=hU.v.c1;have d2:=hU.v.c2;have d3:=hU.v.c3;clear hL hR hU;go_wp2_with ((with_reducible refine Ad (op:=⟨none,.store 47 _ _,_,_,_,none⟩) rfl 47 _ _ rfl w 0 [.int .u8 85,a8,(g.tag:Int),.slice A7 1 c7] ?_ ?_ ?_ ?_ ?_ ?_);rfl;rfl;(exact U6.o.f.2.1);kernel_rfl;(simp[Value.oneCell']);intro w9 HS9)
 have Z:=Nc.fin (v:=.mk 85 [] g.tag [y]) (sl:=.slice A7 1 c7) U6.o.f hb0 HS9.o (U6.o.k.mono fun c hc _=>by omega);have hpv:(Bh (.mk 85 [] g.tag [y])).length=(Bh (Dm (g,y))).length+2:=by rw[Xa];simp
 have hn3':(Bh (Dm (g,y))).length+t2.length<=t1.length+8*N:=hn3;exact aE (v:=.agg (Gf (.mk 85 [] g.tag [y]) (.slice A7 1 c7)).toArray) (Ax results145 _ _ w.heap.size _ _ rfl Z.2.2 underlying47 rfl aM) rfl ⟨.mk 85 [] g.tag [y],_,t4,rfl,Z.1,by rw[HQ4.o];cases b4<;>exact Z.2.1,by rw[HQ4.o];cases b4<;>simp,.mk aG (by simp only[Rb]at hn3';simp[Du];omega) aK (fun z hz=>by rw[ap]at hz;subst hz;exact HBy.o),by omega,by omega⟩
def M4(ps:List (Fd × Vl)):Option (List (Fd × Vl) × List UInt8)->Option (List (Fd × Vl) × List UInt8)
 |some (us,z)=>some (ps++us,z)
 |none=>none
structure RI(S:List Ty)(K:Kd->List UInt8->Option (Vl × List UInt8))(fs:List Fd)(t1:List UInt8)(b1:Bool)(ps:List (Fd × Vl))(last:Nat)(tt:List UInt8):Prop where
 eq:b1=false->Dg S K fs 201 0 t1=M4 ps (Dg S K fs (201 - ps.length) last tt)
 len:Du ((ps.map Dm).map Bh)+tt.length<=t1.length
 bd:∀p∈ps,Bd (Dm p)
 lo:ps.length<=last
 hi:last<=200
def RE(S:List Ty)(K:Kd->List UInt8->Option (Vl × List UInt8))(fs:List Fd)(t1:List UInt8)(b1:Bool)(vs:List Vl)(tt:List UInt8)(bb:Bool)(N:Nat):Prop:=
 ∃ps:List (Fd × Vl),(if b1 then none else Dg S K fs 201 0 t1)=(if bb then none else match Al 125 tt with|some z=>some (ps,z)|none=>none)/\(bb=false->vs=ps.map Dm)/\Du (vs.map Bh)+tt.length<=t1.length+8*N+1/\(∀x∈vs,Bd x)/\vs.length<=201
section
variable {S:List Ty} {K:Kd->List UInt8->Option (Vl × List UInt8)} {fs:List Fd} {t1 tt t' t'':List UInt8} {b1:Bool} {ps:List (Fd × Vl)} {last N:Nat} {g:Fd} {x:Vl}
theorem RI.init:RI S K fs t1 b1 [] 0 t1:=⟨fun _=>by cases h:Dg S K fs 201 0 t1<;>simp[M4,h],by simp[Du],by simp,Ao _,by omega⟩
theorem RI.bad(h:RI S K fs t1 true ps last tt):RE S K fs t1 true (ps.map Dm) tt true N:=
 ⟨ps,by simp,fun h=>Bool.noConfusion h,by have:=h.len;omega,fun y hy=>by obtain⟨p,hp,rfl⟩:=aw.1 hy;exact h.bd p hp,by have:=h.lo;have:=h.hi;simp;omega⟩
theorem RI.fuel(h:RI S K fs t1 b1 ps last tt):∃m,201 - ps.length=m+1:=⟨200 - ps.length,by have:=h.lo;have:=h.hi;omega⟩
theorem RI.step(h:RI S K fs t1 false ps last tt)(hK:Cn K fs tt=some ((g,x),t'))(hl:last<g.tag)(hne:Bh x≠P1 S g)(hlen:tt.length=(Bh (Dm (g,x))).length+t'.length)(hc:Al 44 t'=some t'')(hB:Bd (Dm (g,x)))(hg:g.tag<=200):
  RI S K fs t1 false (ps++[(g,x)]) g.tag t'':=by
 obtain⟨m,hm⟩:=h.fuel;have e:t'=44::t'':=Bx.1 hc;refine⟨fun _=>?_,?_,fun p hp=>?_,by have:=h.lo;simp;omega,hg⟩
 ·rw[h.eq rfl,hm,show 201 - (ps++[(g,x)]).length=m by simp;omega];conv=>lhs;unfold Dg
  rw[hK];simp only;rw[if_neg dV,hc];simp only;cases Dg S K fs m g.tag t''<;>simp[M4]
 ·have:=h.len;rw[ay,ay,J5];simp[Fw,Du]at this ⊢;rw[e]at hlen;simp at hlen;omega
 rcases af.1 hp with hp|hp
 ·exact h.bd p hp
 rw[ap]at hp;subst hp;exact hB
theorem RI.stop(h:RI S K fs t1 false ps last tt)(hs:∀y,Cn K fs tt=some y->y.1.1.tag<=last\/Bh y.1.2=P1 S y.1.1)(hl:t'.length<=tt.length):RE S K fs t1 false (ps.map Dm) t' true N:=by
 obtain⟨m,hm⟩:=h.fuel;refine⟨ps,?_,fun h=>Bool.noConfusion h,by have:=h.len;omega,fun y hy=>by obtain⟨p,hp,rfl⟩:=aw.1 hy;exact h.bd p hp,by have:=h.lo;have:=h.hi;simp;omega⟩;rw[if_neg aJ,h.eq rfl,hm];unfold Dg;cases hk:Cn K fs tt with
 |none=>rfl
 |some y=>
  obtain⟨p,z⟩:=y;simp only;rw[if_pos (hs _ hk)];rfl
theorem RI.brk(h:RI S K fs t1 false ps last tt)(hx:∀y,Cn K fs tt=some y->y=((g,x),t'))(hl:last<g.tag)(hne:Bh x≠P1 S g)(hc:Av [44] t' (Cn K fs tt).isNone=none)(hB:Bd (Dm (g,x)))
  (hn:(Bh (Dm (g,x))).length+t'.length<=tt.length+8*N):RE S K fs t1 false (ps.map Dm++[Dm (g,x)]) t' (Cn K fs tt).isNone N:=by
 obtain⟨m,hm⟩:=h.fuel;refine⟨ps++[(g,x)],?_,fun _=>by simp,?_,?_,by have:=h.lo;have:=h.hi;simp;omega⟩
 ·rw[if_neg aJ,h.eq rfl,hm];unfold Dg;cases hk:Cn K fs tt with
  |none=>rfl
  |some y=>
   have:=hx y hk;subst this;rw[hk,Bw]at hc;simp only[Option.isNone_some,an,if_false]at hc ⊢;rw[if_neg dV,hc];simp only;cases Al 125 t'<;>simp[M4]
 ·have:=h.len;rw[ay,J5];simp[Fw,Du]at this ⊢;omega
 intro y hy;rcases af.1 hy with hy|hy
 ·obtain⟨p,hp,rfl⟩:=aw.1 hy;exact h.bd p hp
 rw[ap]at hy;subst hy;exact hB
theorem RE.fin{vs:List Vl}{bb:Bool}{t:List UInt8}(h:RE S K fs t1 b1 vs tt bb N)(h1:t1=(Av [123] t false).getD t)(hb1:b1=(Av [123] t false).isNone)(h2:Av [125] t1 b1=none):
  (match Al 123 t with
   |none=>none
   |some r=>match Al 125 r with
    |some q=>some (Vl.mk 82 [] 0 [],q)
    |none=>match Dg S K fs 201 0 r with|some (ps,q)=>some (.mk 82 [] 0 (ps.map Dm),q)|none=>none) =
  if (Av [125] tt bb).isNone then none else some (.mk 82 [] 0 vs,(Av [125] tt bb).getD tt):=by
 obtain⟨ps,h3,h4,_⟩:=h;rw[Bw]at h1 hb1 h2 ⊢;simp only[an,if_false]at h1 hb1;cases hy:Al 123 t with
 |none=>
  rw[hy]at hb1;simp only[Option.isNone_none]at hb1;subst hb1;simp only[if_true]at h3;simp only;cases bb with
  |true=>simp
  |false=>
   simp only[an,if_false]at h3 ⊢;cases hz:Al 125 tt with
   |none=>simp
   |some z=>rw[hz]at h3;cases h3
 |some r=>
  rw[hy]at h1 hb1;simp only[Option.isNone_some,Option.getD_some]at h1 hb1;subst h1 hb1;simp only[an,if_false]at h2 h3;simp only;rw[h2];simp only;rw[h3];cases bb with
  |true=>simp
  |false=>
   rw[h4 rfl];simp only[an,if_false];cases Al 125 tt<;>simp
end
end
end Go.Proofs.YtpjijpcemejlnaaGreatDoor
