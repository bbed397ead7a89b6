/- Texts joined. Conditions: as each theorem names them. -/
import Derived.Test.YtpjijpcemejlnaaGreatDoorM21
set_option maxRecDepth 100000
set_option maxHeartbeats 32000000
set_option linter.unusedVariables false
set_option linter.unusedSimpArgs false
namespace Go.Proofs.YtpjijpcemejlnaaGreatDoor
open Go.RowKit Go.Proofs.Tryz
section
attribute [local go_sem] Qkk Qj0 Qjm Qhu ByteArray.mk_append_mk
structure Vb(B:Nat)(W:World)(h0 h1 h2 h3:Value):Prop where
 lt:B<W.heap.size
 bk:Qb W B
 c0:W.cell? (B,0)=some h0
 c1:W.cell? (B,1)=some h1
 c2:W.cell? (B,2)=some h2
 c3:W.cell? (B,3)=some h3
theorem Vb.new{w:World}{h0 h1 h2 h3:Value}{T:TypeId}:Vb w.heap.size (w.alloc (.cells #[h0,h1,h2,h3] T)) h0 h1 h2 h3:=⟨by simp,Qb.new _ _ _,by simp,by simp,by simp,by simp⟩
theorem Vb.grown{B:Nat}{W W':World}{h0 h1 h2 h3:Value}{row:Option Nat}(h:Vb B W h0 h1 h2 h3)(hg:W.grownBy W' row)(hn:some B≠row):Vb B W' h0 h1 h2 h3:=
 ⟨ad h.lt hg.size,h.bk.grown h.lt hg hn,hg.cell h.c0 hn,hg.cell h.c1 hn,hg.cell h.c2 hn,hg.cell h.c3 hn⟩
theorem Vb.after{B:Nat}{W W':World}{h0 h1 h2 h3:Value}(h:Vb B W h0 h1 h2 h3)(hb:Below W W W'):Vb B W' h0 h1 h2 h3:=h.grown (Cs hb none) aM
theorem Vb.set2{B:Nat}{W:World}{h0 h1 h2 h3:Value}(h:Vb B W h0 h1 h2 h3)(v:Value):Vb B (W.setCell ⟨B,2,none⟩ v) h0 h1 v h3:=by
 have hf:=h.bk.live 2;exact⟨by simpa using h.lt,h.bk.set _,by simp[go_sem,h.c0],by simp[go_sem,h.c1],by simp[go_sem,h.c2,hf],by simp[go_sem,h.c3]⟩
theorem Vb.set3{B:Nat}{W:World}{h0 h1 h2 h3:Value}(h:Vb B W h0 h1 h2 h3)(v:Value):Vb B (W.setCell ⟨B,3,none⟩ v) h0 h1 h2 v:=by
 have hf:=h.bk.live 3;exact⟨by simpa using h.lt,h.bk.set _,by simp[go_sem,h.c0],by simp[go_sem,h.c1],by simp[go_sem,h.c2],by simp[go_sem,h.c3,hf]⟩
theorem Pt.init{w:World}{b:Nat}{p:Value}{t:List UInt8}{bad:Bool}(h:Fw w b p t bad){T:TypeId}:Pt w b p w.heap.size t bad (w.alloc (.cells #[.int .u8 0,aa,.int .i64 0,.slice none 0 0] T)):=
 ⟨⟨h.grow ((At _ _).alloc (Ao _) _),Cs ((At _ _).alloc (Ao _) _) _⟩,Ct w [.int .u8 0,aa,.int .i64 0,.slice none 0 0] _,Ao _,by simp⟩
theorem Qi1(fs:List Fd)(t:List UInt8)(t1 t2:List UInt8)(b1 b2:Bool)(h1:t1=(Ay [35] t false).getD t)(hb1:b1=(Ay [35] t false).isNone)(h2:t2=t1.dropWhile Ba)(hb2:b2=(b1 || !Gf 200 t1)):
  (match Ap 35 t with
   |none=>none
   |some r=>match Fj fs r with|some (f,q)=>some (Vl.mk 69 [] f.tag [],q)|none=>none)=if b2 || (Bf fs (G7 t1)).isNone then none else some (.mk 69 [] (G7 t1) [],t2):=by
 rw[Cc]at h1 hb1;simp only[ao,if_false]at h1 hb1;cases hy:Ap 35 t with
 |none=>rw[hy]at hb1;simp at hb1;subst hb1 hb2;simp
 |some r=>
  rw[hy]at h1 hb1;simp at h1 hb1;subst h1 hb1 h2 hb2;simp only[Qbi];cases Gf 200 t1 with
  |false=>simp
  |true=>
   simp only[if_true,Bool.false_or,Bool.not_true];cases hf:Bf fs (G7 t1)with
   |none=>simp
   |some f=>have:=(Cd hf).1;simp[this]
theorem Qha(w0:World)(b N:Nat)(p:Value)(S:List Ty)(x:PT)(hx:Rg w0 x)(h9:x.ty.sort=69)(t:List UInt8)(w:World)(hw:Below w0 w0 w)(hb:w0.heap.size<=b)(h:Fw w b p t false)(hl:t.length<=900)
  (q:Option (Vl × List UInt8)) (hq:q=Jy S (Al S 1000 N) x.ty t):
  Calls prog 145 #[b,x.blk] w (Kc w b p t (N+1) q):=by
 have HQ:=Aa (hq.trans (by unfold Jy;rw[if_pos h9]));have HS:=Aa h;have HW:=Aa hw;have hb0:=h.1;have hx0:=hx.1;have x0:=(hw.cell (p:=⟨x.blk,0,none⟩) hx0).trans hx.2.2.1;have hxw:x.blk<w.heap.size:=eX;have hxn:¬(x.blk=w.heap.size):=eX;have hxn2:¬(x.blk=w.heap.size+1):=eX;rw[h9]at x0;have x0':w.cell? (x.blk,0)=some (.int .u8 69):=x0;clear x0;have hm:=Ej 35 t false;have Hwt:=Aa (fun W (h:Fw W b p t false)=>Dd b p t [35] false W h aH);obtain⟨t1,ht1⟩:∃t1,t1=(Ay [35] t false).getD t:=⟨_,rfl⟩
 obtain⟨b1,hb1⟩:∃b1,b1=(Ay [35] t false).isNone:=⟨_,rfl⟩
 have HQ2:=Aa (HQ.o.trans (Qi1 x.ty.fields t t1 (t1.dropWhile Ba) b1 (b1 || !Gf 200 t1) ht1 hb1 rfl rfl));rw[<-ht1]at hm;rw[<-ht1,<-hb1]at Hwt;have Hn:=Aa (fun W (h:Fw W b p t1 b1)=>Nz b 200 p t1 b1 W h aH aL);have hnn:=Zd t1;have hdr:=Ze Ba t1;have Hf:=Aa (fun W (hW:Below w0 w0 W)=>V9 w0 x hx (G7 t1) W hW aH);have hdl:=Cv 5 (G7 t1) cJ;generalize (b1 || !Gf 200 t1)=b2 at *;generalize t1.dropWhile Ba=t2 at *;generalize G7 t1=n at *;clear ht1 hb1 h hw hq h9 HQ;go_enter func145,ntmps145;go_wp2_with fail;have F1:=Aa ((Pt.init HS.o (T:=47)).post ((At _ _).alloc (Ao _) (.cells #[.int .u8 69,aa,.int .i64 0,.slice none 0 0] 47)));have V1:=@Aa (Vb (w.heap.size+1) _ _ _ _ _) (by have:=Vb.new (w:=w.alloc (.cells #[.int .u8 0,aa,.int .i64 0,.slice none 0 0] 47)) (h0:=.int .u8 69) (h1:=aa) (h2:=.int .i64 0) (h3:=.slice none 0 0) (T:=47);simpa using this);refine(Hwt.o _ F1.o.1.1).mono ?_;rintro e w2 ⟨rfl,hs2⟩;have F2:=Aa (F1.o.step hb0 hs2);have V2:=Aa (V1.o.grown hs2.2 aN);clear hs2 F1 V1;go_wp2_with fail;refine(Hn.o _ F2.o.1.1).mono ?_;rintro e w3 ⟨rfl,hs3⟩;have F3:=Aa (F2.o.step hb0 hs3);have V3:=Aa (V2.o.grown hs3.2 aN);clear hs3 F2 V2;have c2:=V3.o.c2;have f2:=V3.o.bk.live 2;have l2:=V3.o.lt;go_wp2_with fail;have F4:=Aa (F3.o.app hb0 (Am w3 (w.heap.size+1) 2 (n:Int)) (fun k e=>by injection e with e;omega));have V4:=Aa (V3.o.set2 (n:Int));refine(Hf.o _ (F4.o.1.env HW.o hb)).mono ?_;rintro e w4 ⟨fp,rfl,hfp,rfl⟩;cases hfo:Bf x.ty.fields n with
 |some g=>
  rw[hfo]at hfp HQ2;obtain⟨fb,fo,rfl,_,_⟩:=hfp;have d0:=V4.o.c0;have d1:=V4.o.c1;have d2:=V4.o.c2;have d3:=V4.o.c3;clear hfo c2 f2 l2;generalize w3.setCell ⟨w.heap.size+1,2,none⟩ (n:Int)=w4 at *;go_wp2_with ((with_reducible refine Ae (op:=⟨none,.store 47 _ _,_,_,_,none⟩) rfl 47 _ _ rfl w 0 [.int .u8 69,aa,(n:Int),.slice none 0 0] ?_ ?_ ?_ ?_ ?_ ?_);rfl;rfl;(exact F4.o.2.1);kernel_rfl;(simp[Value.oneCell']);intro w9 HS9)
  have Z:=Pt.fin (v:=.mk 69 [] n []) (sl:=.slice none 0 0) F4.o hb0 HS9.o (Fb.nil _ _);refine aF (v:=.agg (Ha (.mk 69 [] n []) (.slice none 0 0)).toArray) (Az results145 _ _ w.heap.size _ _ rfl Z.2.2 underlying47 rfl aP) rfl ⟨.mk 69 [] n [],_,t2,rfl,Z.1,?_,?_,Eu aH aL,by omega,by simp[Bh,Dz,H6];omega⟩
  ·rw[HQ2.o];cases b2<;>exact Z.2.1
  rw[HQ2.o];cases b2<;>simp
 |none=>
  rw[hfo]at hfp HQ2;have hfp':fp=.pointer none:=hfp;subst hfp';have s2:=F4.o.1.1.2.2.2.2;have sb:=F4.o.1.1.2.1.live 2;have s0:=F4.o.1.1.1;clear hfo c2 f2 l2;generalize w3.setCell ⟨w.heap.size+1,2,none⟩ (n:Int)=w4 at *;have F5:=Aa (F4.o.step hb0 ⟨F4.o.1.1.setBad true,Am _ b 2 (.bool true)⟩);have V5:=Aa (V4.o.grown (Am w4 b 2 (.bool true)) aN);have d0:=V5.o.c0;have d1:=V5.o.c1;have d2:=V5.o.c2;have d3:=V5.o.c3;go_wp2_with ((with_reducible refine Ae (op:=⟨none,.store 47 _ _,_,_,_,none⟩) rfl 47 _ _ rfl w 0 [.int .u8 69,aa,(n:Int),.slice none 0 0] ?_ ?_ ?_ ?_ ?_ ?_);rfl;rfl;(exact F5.o.2.1);kernel_rfl;(simp[Value.oneCell']);intro w9 HS9)
  have Z:=Pt.fin (v:=.mk 69 [] n []) (sl:=.slice none 0 0) F5.o hb0 HS9.o (Fb.nil _ _);refine aF (v:=.agg (Ha (.mk 69 [] n []) (.slice none 0 0)).toArray) (Az results145 _ _ w.heap.size _ _ rfl Z.2.2 underlying47 rfl aP) rfl ⟨.mk 69 [] n [],_,t2,rfl,Z.1,?_,?_,Eu aH aL,by omega,by simp[Bh,Dz,H6];omega⟩
  ·rw[HQ2.o];simpa using Z.2.1
  rw[HQ2.o];simp
def Qf6(q1:Option ((Fd × Vl) × List UInt8))(t2:List UInt8):Option (Vl × List UInt8):=match q1 with
 |none=>none
 |some (p,_)=>if (Ay [62] t2 false).isNone then none else some (.mk 85 [] p.1.tag [p.2],(Ay [62] t2 false).getD t2)
theorem Qid(K:Kd->List UInt8->Option (Vl × List UInt8))(fs:List Fd)(t t1 t2:List UInt8)(b1:Bool)(q1:Option ((Fd × Vl) × List UInt8))(h1:t1=(Ay [60] t false).getD t)(hb1:b1=(Ay [60] t false).isNone)(h2:q1=if b1 then none else Cw K fs t1)(h3:∀y,q1=some y->t2=y.2):
  (match Ap 60 t with
   |none=>none
   |some r=>match Cw K fs r with
    |none=>none
    |some (p,q)=>match Ap 62 q with|some z=>some (Vl.mk 85 [] p.1.tag [p.2],z)|none=>none) =
  Qf6 q1 t2:=by
 rw[Cc]at h1 hb1;simp only[ao,if_false]at h1 hb1;cases hy:Ap 60 t with
 |none=>rw[hy]at hb1;simp at hb1;subst hb1;simp at h2;subst h2;simp[Qf6]
 |some r=>
  rw[hy]at h1 hb1;simp at h1 hb1;subst h1 hb1;simp only[ao,if_false]at h2;subst h2;simp only;cases hk:Cw K fs t1 with
  |none=>simp[Qf6]
  |some y=>
   obtain⟨p,q⟩:=y;obtain rfl:=h3 _ hk;simp only[Qf6,Cc,ao,if_false];cases Ap 62 t2<;>simp
structure Qat(w0 w:World)(b B X:Nat)(p:Value)(t:List UInt8)(bad:Bool)(g:Fd)(x:Vl)(fp:Value)(sl h2 h3:Value)(W:World):Prop where
 f:Pt w b p w.heap.size t bad W
 v:Vb B W (.int .u8 85) aa h2 h3
 xr:W.rangeAt X 0 [.int .u8 61,aa,(g.tag:Int),sl]
 k:Fb (fun c=>B<c) W sl [x]
 p:Jg w0.heap.size W fp (some g)
 lw:Below w0 w0 W
theorem Qat.put{w0 w W:World}{b B X o:Nat}{p:Value}{t:List UInt8}{bad:Bool}{g:Fd}{x:Vl}{fp sl h2 h3 h2' h3':Value}(h:Qat w0 w b B X p t bad g x fp sl h2 h3 W)(u:Value)(hV:Vb B (W.setCell ⟨B,o,none⟩ u) (.int .u8 85) aa h2' h3')
  (hb:b<w.heap.size) (hB:w.heap.size<B) (hX:B<X) (h0:w0.heap.size<=w.heap.size):Qat w0 w b B X p t bad g x fp sl h2' h3' (W.setCell ⟨B,o,none⟩ u):=by
 have hg:=Am W B o u;have hlw:Below w0 w0 (W.setCell ⟨B,o,none⟩ u):=h.lw.grown hg h.lw.size fun k hk=>by injection hk with hk;omega
 exact⟨h.f.app hb hg (fun k e=>by injection e with e;omega),hV,Gh h.xr hg ck,h.k.grown hg (fun c hc e=>by injection e with e;omega),h.p.via h.lw hlw,hlw⟩
theorem Qat.drew{w0 w W:World}{b B X:Nat}{p:Value}{t:List UInt8}{bad:Bool}{g:Fd}{x:Vl}{fp sl h2 h3:Value}(h:Qat w0 w b B X p t bad g x fp sl h2 h3 W):Qat w0 w b B X p t bad g x fp sl h2 h3 W.drew:=
 ⟨h.f.post (At _ _).drew,h.v.after (At _ _).drew,h.xr,h.k.after (At _ _).drew,h.p.via h.lw h.lw.drew,h.lw.drew⟩
theorem Qhj(w0:World)(b N:Nat)(p:Value)(S:List Ty)(x:PT)(hx:Rg w0 x)(h5:x.ty.sort=85)(t:List UInt8)(w:World)(hw:Below w0 w0 w)(hb:w0.heap.size<=b)(h:Fw w b p t false)(hl:t.length<=900)(hN:t.length<=N)(hN2:N<=2000)
  (htg:∀f∈x.ty.fields,f.tag<=200) (H:∀f∈x.ty.fields,IvC w0 b p S N f.kind) (q:Option (Vl × List UInt8)) (hq:q=Jy S (Al S 1000 N) x.ty t):
  Calls prog 145 #[b,x.blk] w (Kc w b p t (N+1) q):=by
 have HQ:=Aa (hq.trans (by unfold Jy;rw[if_neg ee,if_pos h5]));have HS:=Aa h;have HW:=Aa hw;have hb0:=h.1;have hx0:=hx.1;have hww:=hw.size;have x0:=(hw.cell (p:=⟨x.blk,0,none⟩) hx0).trans hx.2.2.1;have hxw:x.blk<w.heap.size:=aH;have hxn:¬(x.blk=w.heap.size):=aH;have hxn2:¬(x.blk=w.heap.size+1):=aH;rw[h5]at x0;have x0':w.cell? (x.blk,0)=some (.int .u8 85):=x0;clear x0;have hm:=Ej 60 t false;have Hwt:=Aa (fun W (h:Fw W b p t false)=>Dd b p t [60] false W h aH);obtain⟨t1,ht1⟩:∃t1,t1=(Ay [60] t false).getD t:=⟨_,rfl⟩
 obtain⟨b1,hb1⟩:∃b1,b1=(Ay [60] t false).isNone:=⟨_,rfl⟩
 obtain⟨q1,hq1⟩:∃q1,q1=if b1 then none else Cw (Al S 1000 N) x.ty.fields t1:=⟨_,rfl⟩
 have HQ2:=Aa (fun t2 h3=>HQ.o.trans (Qid (Al S 1000 N) x.ty.fields t t1 t2 b1 q1 ht1 hb1 hq1 h3));rw[<-ht1]at hm;rw[<-ht1,<-hb1]at Hwt;have Hfd:=Aa (fun W (h1:Below w0 w0 W) (h2:Fw W b p t1 b1)=>Qbc w0 b N p S x hx t1 W h1 hb b1 h2 aH (fun _=>by omega) hN2 htg H q1 hq1);clear ht1 hb1 h hw hq h5 HQ hq1 H;go_enter func145,ntmps145;go_wp2_with fail;have F1:=Aa ((Pt.init HS.o (T:=47)).post ((At _ _).alloc (Ao _) (.cells #[.int .u8 85,aa,.int .i64 0,.slice none 0 0] 47)));have V1:=@Aa (Vb (w.heap.size+1) _ _ _ _ _) (by have:=Vb.new (w:=w.alloc (.cells #[.int .u8 0,aa,.int .i64 0,.slice none 0 0] 47)) (h0:=.int .u8 85) (h1:=aa) (h2:=.int .i64 0) (h3:=.slice none 0 0) (T:=47);simpa using this);refine(Hwt.o _ F1.o.1.1).mono ?_;rintro e w2 ⟨rfl,hs2⟩;have F2:=Aa (F1.o.step hb0 hs2);have V2:=Aa (V1.o.grown hs2.2 aN);have hz2:w.heap.size+2<=w2.heap.size:=by have:=hs2.2.size;simp at this;omega
 clear hs2 F1 V1;go_wp2_with fail;refine(Hfd.o _ (F2.o.1.env HW.o hb) F2.o.1.1).mono ?_;rintro e w3 ⟨v,sl,fp,t2,rfl,hk3,hs3,hB3,hl3,hn3,hcase⟩;obtain⟨A7,c7,rfl⟩:=hk3.form;have F3:=Aa (F2.o.step hb0 hs3);have V3:=Aa (V2.o.grown hs3.2 aN);have Hk3:=Aa hk3;have hz3:w2.heap.size<=w3.heap.size:=hs3.2.size;clear hs3 F2 V2 hk3;unfold Np;have hm3:=Ej 62 t2 q1.isNone;have Hwt2:=Aa (fun W (h:Fw W b p t2 q1.isNone)=>Dd b p t2 [62] q1.isNone W h aH);rcases hcase with⟨rfl,hq1⟩|⟨g,y,hfp,rfl,hfg,hBy,hy⟩
 ·have HQ3:=@Aa (q=none) (by rw[HQ2.o t2 (by rw[hq1];simp),hq1];rfl);have hw3:Ay [62] t2 q1.isNone=none:=by rw[hq1,Cc];rfl
  rw[hw3]at Hwt2;simp only[Option.getD_none,Option.isNone_none]at Hwt2;clear hq1 hw3 HQ2 hB3;go_wp2_with fail;have F4:=Aa (F3.o.post ((At w3.heap.size w3).alloc (Ao _) (.cells #[.int .u8 (v.what.toNat:Int),v.text,(v.tag:Int),.slice A7 v.kids.length c7] 47)));have V4:=Aa (V3.o.after ((At w3.heap.size w3).alloc (Ao _) (.cells #[.int .u8 (v.what.toNat:Int),v.text,(v.tag:Int),.slice A7 v.kids.length c7] 47)));refine(Hwt2.o _ F4.o.1.1).mono ?_;rintro e w5 ⟨rfl,hs5⟩;have F5:=Aa (F4.o.step hb0 hs5);have V5:=Aa (V4.o.grown hs5.2 aN);have d0:=V5.o.c0;have d1:=V5.o.c1;have d2:=V5.o.c2;have d3:=V5.o.c3;clear hs5 F4 V4;go_wp2_with ((with_reducible refine Ae (op:=⟨none,.store 47 _ _,_,_,_,none⟩) rfl 47 _ _ rfl w 0 [.int .u8 85,aa,.int .i64 0,.slice none 0 0] ?_ ?_ ?_ ?_ ?_ ?_);rfl;rfl;(exact F5.o.2.1);kernel_rfl;(simp[Value.oneCell']);intro w9 HS9)
  have Z:=Pt.fin (v:=.mk 85 [] 0 []) (sl:=.slice none 0 0) F5.o hb0 HS9.o (Fb.nil _ _);exact aF (v:=.agg (Ha (.mk 85 [] 0 []) (.slice none 0 0)).toArray) (Az results145 _ _ w.heap.size _ _ rfl Z.2.2 underlying47 rfl aP) rfl ⟨.mk 85 [] 0 [],_,t2,rfl,Z.1,by rw[HQ3.o];exact Z.2.1,by rw[HQ3.o];simp,Eu aL aL,by omega,by simp[Bh,Dz,H6,Ar,Ee];omega⟩
 have HQ3:=Aa (HQ2.o t2 (fun z hz=>by rw[hy z hz]));obtain⟨t4,ht4⟩:∃t4,t4=(Ay [62] t2 q1.isNone).getD t2:=⟨_,rfl⟩
 obtain⟨b4,hb4⟩:∃b4,b4=(Ay [62] t2 q1.isNone).isNone:=⟨_,rfl⟩
 rw[<-ht4,<-hb4]at Hwt2;rw[<-ht4]at hm3
 have HQ4:=Aa (show q=if b4 then none else some (.mk 85 [] g.tag [y],t4)from by
  rw[HQ3.o];cases hq1:q1 with
  |none=>rw[hq1,Cc]at hb4;simp at hb4;subst hb4;rfl
  |some z=>
   obtain⟨z1,z2⟩:=z;have:=hy _ hq1;injection this with e1 e2;subst e1;rw[hq1]at ht4 hb4;unfold Qf6;simp only;rw[ht4,hb4];rfl)
 have hpl:=M7 (g,y);obtain⟨fb,fo,rfl,hfb,hfr⟩:=hfp;have HP3:=@Aa (Jg w0.heap.size w3 (.pointer (some ⟨fb,fo,none⟩)) (some g)) ⟨fb,fo,rfl,hfb,hfr⟩;have hgt:=htg g (Cd hfg).2;have HBy:=Aa hBy;clear ht4 hb4 HQ2 HQ3 hB3 hfr hy hBy hfg;simp only[Dk,Vl.what,Vl.text,Vl.tag,Vl.kids,List.length_singleton]at Hk3 hn3 ⊢;go_wp2_with fail;obtain⟨W4,hW4⟩:∃W4,W4=w3.alloc (.cells #[.int .u8 61,aa,(g.tag:Int),.slice A7 1 c7] 47):=⟨_,rfl⟩
 have hb4:Below w3 w3 W4:=by rw[hW4];exact(At _ _).alloc (Ao _) _
 have X4:=@Aa (W4.rangeAt w3 0 [.int .u8 61,aa,(g.tag:Int),.slice A7 1 c7]) (by rw[hW4];exact Cj w3 [.int .u8 61,aa,(g.tag:Int),.slice A7 1 c7] _);have hz4:w3.heap.size<W4.heap.size:=by rw[hW4];simp
 have F4:=Aa (F3.o.post hb4);have V4:=Aa (V3.o.after hb4);have Hk4:=Aa (Hk3.o.after hb4);have HP4:=Aa (HP3.o.via (F3.o.1.env HW.o hb) (F4.o.1.env HW.o hb));have hW4':w3.alloc (.cells #[.int .u8 ((61:UInt8).toNat:Int),([]:List UInt8),(g.tag:Int),.slice A7 1 c7] 47)=W4:=hW4.symm;first|rw[<-hW4]|rw[hW4']
 generalize w3.heap.size=BX at *;clear hW4 hW4' hb4 F3 V3 Hk3 HP3;refine(Hwt2.o _ F4.o.1.1).mono ?_;rintro e w5 ⟨rfl,hs5⟩;have F5:=Aa (F4.o.step hb0 hs5);have V5:=Aa (V4.o.grown hs5.2 aN)
 have U5:=Aa (show Qat w0 w b (w.heap.size+1) BX p t4 b4 g y (.pointer (some ⟨fb,fo,none⟩)) (.slice A7 1 c7) (.int .i64 0) (.slice none 0 0) w5 from
  ⟨F5.o,V5.o,Gh X4.o hs5.2 aN,(Hk4.o.grown hs5.2 (fun c hc e=>by injection e with e;omega)).mono (fun c hc _=>by omega),HP4.o.via (F4.o.1.env HW.o hb) (F5.o.1.env HW.o hb),F5.o.1.env HW.o hb⟩)
 clear hs5 F4 V4 X4 Hk4 HP4;go_wp2_with fail;refine M4 [107,108,109,110,111,112,113,999,114,998]
  (fun ix v W=>match ix with|0=>v=.pointer (some ⟨fb,fo,none⟩)|1=>v=.pointer (some ⟨fb,fo,none⟩)|2=>v=.pointer (some ⟨fb,fo,none⟩)|3=>v=(g.tag:Int)|4=>v=(BX,3)|5=>v=.slice A7 1 c7|6=>v=(w,1,2)|8=>v=(w,1,3)|_=>True)
  (fun L U W=>Qat w0 w b (w.heap.size+1) BX p t4 b4 g y (.pointer (some ⟨fb,fo,none⟩)) (.slice A7 1 c7) (if L 7=true then (g.tag:Int)else .int .i64 0) (if L 9=true then .slice A7 1 c7 else .slice none 0 0) W) (by simpa using U5.o.drew) ?_ ?_
 ·repeat (first|exact An.nil|(refine An.cons ?_ ?_;rotate_left))
  all_goals
   rintro L U W hL hpre HR Hdep K hK;have hU:=HR.o;have m3:=hU.xr 3 _ rfl;simp only[an]at m3;have fb0:W.cell? ⟨fb,fo,none⟩=(g.tag:Int):=by obtain⟨a1,a2,a3,_,a5⟩:=hU.p;injection a3 with a3;injection a3 with a3;injection a3 with a3 a4;subst a3 a4;simpa using Ac a5 0 rfl
   first|(simp[Region.binds]at hpre;done)|simp[Region.binds]at hpre|clear hpre
  iterate 7
   ·exact fK
  ·have q2:=hU.v.c2;have qf:=hU.v.bk.live 2;have ql:=hU.v.lt;have hst:=hU.put (g.tag:Int) (hU.v.set2 _) hb0 aH aH hww;exact jw
  ·exact fK
  ·have q3:=hU.v.c3;have qf:=hU.v.bk.live 3;have ql:=hU.v.lt;have hst:=hU.put (.slice A7 1 c7) (hU.v.set3 _) hb0 aH aH hww;exact jw
 rintro L U W hL hφ hR;clear hφ;have hU:=hR;simp only[hL 7 aL,hL 9 aL,if_true]at hU;have U6:=Aa hU;have d0:=hU.v.c0;have d1:=hU.v.c1;have d2:=hU.v.c2;have d3:=hU.v.c3;clear hL hR hU;go_wp2_with ((with_reducible refine Ae (op:=⟨none,.store 47 _ _,_,_,_,none⟩) rfl 47 _ _ rfl w 0 [.int .u8 85,aa,(g.tag:Int),.slice A7 1 c7] ?_ ?_ ?_ ?_ ?_ ?_);rfl;rfl;(exact U6.o.f.2.1);kernel_rfl;(simp[Value.oneCell']);intro w9 HS9)
 have Z:=Pt.fin (v:=.mk 85 [] g.tag [y]) (sl:=.slice A7 1 c7) U6.o.f hb0 HS9.o (U6.o.k.mono fun c hc _=>by omega);have hpv:(Bh (.mk 85 [] g.tag [y])).length=(Bh (Dk (g,y))).length+2:=by rw[Re];simp
 have hn3':(Bh (Dk (g,y))).length+t2.length<=t1.length+8*N:=hn3;exact aF (v:=.agg (Ha (.mk 85 [] g.tag [y]) (.slice A7 1 c7)).toArray) (Az results145 _ _ w.heap.size _ _ rfl Z.2.2 underlying47 rfl aP) rfl ⟨.mk 85 [] g.tag [y],_,t4,rfl,Z.1,by rw[HQ4.o];cases b4<;>exact Z.2.1,by rw[HQ4.o];cases b4<;>simp,.mk aH (by simp only[M7]at hn3';simp[Dx];omega) aM (fun z hz=>by rw[aq]at hz;subst hz;exact HBy.o),by omega,by omega⟩
def Ny(ps:List (Fd × Vl)):Option (List (Fd × Vl) × List UInt8)->Option (List (Fd × Vl) × List UInt8)
 |some (us,z)=>some (ps++us,z)
 |none=>none
structure RI(S:List Ty)(K:Kd->List UInt8->Option (Vl × List UInt8))(fs:List Fd)(t1:List UInt8)(b1:Bool)(ps:List (Fd × Vl))(last:Nat)(tt:List UInt8):Prop where
 eq:b1=false->Du S K fs 201 0 t1=Ny ps (Du S K fs (201 - ps.length) last tt)
 len:Dx ((ps.map Dk).map Bh)+tt.length<=t1.length
 bd:∀p∈ps,Bd (Dk p)
 lo:ps.length<=last
 hi:last<=200
def RE(S:List Ty)(K:Kd->List UInt8->Option (Vl × List UInt8))(fs:List Fd)(t1:List UInt8)(b1:Bool)(vs:List Vl)(tt:List UInt8)(bb:Bool)(N:Nat):Prop:=
 ∃ps:List (Fd × Vl),(if b1 then none else Du S K fs 201 0 t1)=(if bb then none else match Ap 125 tt with|some z=>some (ps,z)|none=>none)/\(bb=false->vs=ps.map Dk)/\Dx (vs.map Bh)+tt.length<=t1.length+8*N+1/\(∀x∈vs,Bd x)/\vs.length<=201
section
variable {S:List Ty} {K:Kd->List UInt8->Option (Vl × List UInt8)} {fs:List Fd} {t1 tt t' t'':List UInt8} {b1:Bool} {ps:List (Fd × Vl)} {last N:Nat} {g:Fd} {x:Vl}
theorem RI.init:RI S K fs t1 b1 [] 0 t1:=⟨fun _=>by cases h:Du S K fs 201 0 t1<;>simp[Ny,h],by simp[Dx],by simp,Ao _,by omega⟩
theorem RI.bad(h:RI S K fs t1 true ps last tt):RE S K fs t1 true (ps.map Dk) tt true N:=
 ⟨ps,by simp,fun h=>Bool.noConfusion h,by have:=h.len;omega,fun y hy=>by obtain⟨p,hp,rfl⟩:=ax.1 hy;exact h.bd p hp,by have:=h.lo;have:=h.hi;simp;omega⟩
theorem RI.fuel(h:RI S K fs t1 b1 ps last tt):∃m,201 - ps.length=m+1:=⟨200 - ps.length,by have:=h.lo;have:=h.hi;omega⟩
theorem RI.step(h:RI S K fs t1 false ps last tt)(hK:Cw K fs tt=some ((g,x),t'))(hl:last<g.tag)(hne:Bh x≠Nq S g)(hlen:tt.length=(Bh (Dk (g,x))).length+t'.length)(hc:Ap 44 t'=some t'')(hB:Bd (Dk (g,x)))(hg:g.tag<=200):
  RI S K fs t1 false (ps++[(g,x)]) g.tag t'':=by
 obtain⟨m,hm⟩:=h.fuel;have e:t'=44::t'':=Ce.1 hc;refine⟨fun _=>?_,?_,fun p hp=>?_,by have:=h.lo;simp;omega,hg⟩
 ·rw[h.eq rfl,hm,show 201 - (ps++[(g,x)]).length=m by simp;omega];conv=>lhs;unfold Du
  rw[hK];simp only;rw[if_neg eP,hc];simp only;cases Du S K fs m g.tag t''<;>simp[Ny]
 ·have:=h.len;rw[az,az,Mf];simp[Fs,Dx]at this ⊢;rw[e]at hlen;simp at hlen;omega
 rcases ag.1 hp with hp|hp
 ·exact h.bd p hp
 rw[aq]at hp;subst hp;exact hB
theorem RI.stop(h:RI S K fs t1 false ps last tt)(hs:∀y,Cw K fs tt=some y->y.1.1.tag<=last\/Bh y.1.2=Nq S y.1.1)(hl:t'.length<=tt.length):RE S K fs t1 false (ps.map Dk) t' true N:=by
 obtain⟨m,hm⟩:=h.fuel;refine⟨ps,?_,fun h=>Bool.noConfusion h,by have:=h.len;omega,fun y hy=>by obtain⟨p,hp,rfl⟩:=ax.1 hy;exact h.bd p hp,by have:=h.lo;have:=h.hi;simp;omega⟩;rw[if_neg aL,h.eq rfl,hm];unfold Du;cases hk:Cw K fs tt with
 |none=>rfl
 |some y=>
  obtain⟨p,z⟩:=y;simp only;rw[if_pos (hs _ hk)];rfl
theorem RI.brk(h:RI S K fs t1 false ps last tt)(hx:∀y,Cw K fs tt=some y->y=((g,x),t'))(hl:last<g.tag)(hne:Bh x≠Nq S g)(hc:Ay [44] t' (Cw K fs tt).isNone=none)(hB:Bd (Dk (g,x)))
  (hn:(Bh (Dk (g,x))).length+t'.length<=tt.length+8*N):RE S K fs t1 false (ps.map Dk++[Dk (g,x)]) t' (Cw K fs tt).isNone N:=by
 obtain⟨m,hm⟩:=h.fuel;refine⟨ps++[(g,x)],?_,fun _=>by simp,?_,?_,by have:=h.lo;have:=h.hi;simp;omega⟩
 ·rw[if_neg aL,h.eq rfl,hm];unfold Du;cases hk:Cw K fs tt with
  |none=>rfl
  |some y=>
   have:=hx y hk;subst this;rw[hk,Cc]at hc;simp only[Option.isNone_some,ao,if_false]at hc ⊢;rw[if_neg eP,hc];simp only;cases Ap 125 t'<;>simp[Ny]
 ·have:=h.len;rw[az,Mf];simp[Fs,Dx]at this ⊢;omega
 intro y hy;rcases ag.1 hy with hy|hy
 ·obtain⟨p,hp,rfl⟩:=ax.1 hy;exact h.bd p hp
 rw[aq]at hy;subst hy;exact hB
theorem RE.fin{vs:List Vl}{bb:Bool}{t:List UInt8}(h:RE S K fs t1 b1 vs tt bb N)(h1:t1=(Ay [123] t false).getD t)(hb1:b1=(Ay [123] t false).isNone)(h2:Ay [125] t1 b1=none):
  (match Ap 123 t with
   |none=>none
   |some r=>match Ap 125 r with
    |some q=>some (Vl.mk 82 [] 0 [],q)
    |none=>match Du S K fs 201 0 r with|some (ps,q)=>some (.mk 82 [] 0 (ps.map Dk),q)|none=>none) =
  if (Ay [125] tt bb).isNone then none else some (.mk 82 [] 0 vs,(Ay [125] tt bb).getD tt):=by
 obtain⟨ps,h3,h4,_⟩:=h;rw[Cc]at h1 hb1 h2 ⊢;simp only[ao,if_false]at h1 hb1;cases hy:Ap 123 t with
 |none=>
  rw[hy]at hb1;simp only[Option.isNone_none]at hb1;subst hb1;simp only[if_true]at h3;simp only;cases bb with
  |true=>simp
  |false=>
   simp only[ao,if_false]at h3 ⊢;cases hz:Ap 125 tt with
   |none=>simp
   |some z=>rw[hz]at h3;cases h3
 |some r=>
  rw[hy]at h1 hb1;simp only[Option.isNone_some,Option.getD_some]at h1 hb1;subst h1 hb1;simp only[ao,if_false]at h2 h3;simp only;rw[h2];simp only;rw[h3];cases bb with
  |true=>simp
  |false=>
   rw[h4 rfl];simp only[ao,if_false];cases Ap 125 tt<;>simp
end
end
end Go.Proofs.YtpjijpcemejlnaaGreatDoor
