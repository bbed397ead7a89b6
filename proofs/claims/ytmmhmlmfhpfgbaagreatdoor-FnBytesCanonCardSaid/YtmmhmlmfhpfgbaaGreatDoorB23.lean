/- Texts joined. Conditions: as each theorem names them. -/
import Derived.Deep.CutRange
import Derived.Deep.DeepCutAuto
import Derived.Test.YtmmhmlmfhpfgbaaGreatDoorB18
set_option maxRecDepth 100000
set_option maxHeartbeats 32000000
set_option linter.unusedVariables false
set_option linter.unusedSimpArgs false
namespace Go.Proofs.YtmmhmlmfhpfgbaaGreatDoor
open Go.RowKit Go.Proofs.Tryz
section
attribute [local go_sem] Qra Qpu Qo3 Qmi ByteArray.mk_append_mk
def Rd(tt:List UInt8)(N:Nat)(r:Option (Vl × List UInt8))(v:Vl)(t':List UInt8):Prop:=
 (∀x,r=some x->v=x.1/\t'=x.2)/\Bd v/\t'.length<=tt.length/\(Aw v).length+t'.length<=tt.length+8*N
structure Qrf(w:World)(b B:Nat)(p:Value)(k:Kd)(h0 h1 h2 rv:Value)(xs:List (Vl × Value))(tt:List UInt8)(bb:Bool)(N:Nat)(r:Option (Vl × List UInt8))(c s a d:Bool)(uc us ua:Value)(W:World):Prop where
 r1:∃t2 bad2,K0 w b p k t2 bad2 W/\(c=false->t2=tt/\bad2=bb)
 r2:a=false->Sj (B+1) B W h0 h1 h2 rv rv xs
 r3:c=true->∃v sl t',uc=Gf v sl/\Rd tt N r v t'/\K0 w b p k t' r.isNone W/\(a=false->Eb (fun c=>B+1<=c/\rv.ownBlock≠some c) W sl v.kids) /\
  (s=true->a=false->∃W7,W=W7.alloc (.cells (Ps (v,sl)).toArray 68)/\us=.slice (some ⟨W7.heap.size,0,none⟩) 1 1/\Sj (B+1) B W7 h0 h1 h2 rv rv xs/\Eb (fun c=>B+1<=c/\rv.ownBlock≠some c) W7 sl v.kids/\K0 w b p k t' r.isNone W7) /\
  (a=true->d=false->∃A n c,ua=.slice A n c/\Sj (B+1) B W h0 h1 h2 rv ua (xs++[(v,sl)])) /\
  (d=true->∃A n c,ua=.slice A n c/\Sj (B+1) B W h0 h1 h2 ua ua (xs++[(v,sl)]))
theorem Qjx(w0:World)(b N:Nat)(p:Value)(S:List Ty)(t:List UInt8)(k:Kd)(w:World)(hw:Below w0 w0 w)(hb:w0.heap.size<=b)(h:G0 w b p t false)(hl:t.length<=900)(hN:t.length<=N)(hN2:N<=2000)
  (H:IvC w0 b p S N k) (HG:∀s v r,Am S 1000 N k s=some (v,r)->s=Aw v++r) (q:Option (Vl × List UInt8)) (hq:q=Xx (Am S 1000 N k) 1000 t):
  Calls prog 140 #[b,Fi k] w (Ma w b p t (N+1) q):=by
 have HQ:=Aa hq;have HH:=Aa H;have HG:=Aa HG;have HS:=Aa h;have HW:=Aa hw;have hb0:=h.1;have hbn:¬(b=w.heap.size):=aI;have hbn2:¬(b=w.heap.size+1):=aI;have hbn3:¬(b=w.heap.size+2):=aI;have hm:=Ff 91 t false;have Hwt:=Aa (fun W (h:G0 W b p t false)=>Dx b p t [91] false W h aI);have Hlt0:=Aa (fun r (h:Bg [91] t false=some r)=>Kj h);obtain⟨t1,ht1⟩:∃t1,t1=(Bg [91] t false).getD t:=⟨_,rfl⟩
 obtain⟨b1,hb1⟩:∃b1,b1=(Bg [91] t false).isNone:=⟨_,rfl⟩
 have Ht1:=Aa ht1;have Hb1:=Aa hb1
 have HL1:=Aa (show b1=false->t1.length<N from by
  intro h;rw[hb1]at h;cases hr:Bg [91] t false with
  |none=>rw[hr]at h;cases h
  |some r=>have:=Hlt0.o r hr;rw[ht1,hr];simp;omega)
 rw[<-ht1]at hm;rw[<-ht1,<-hb1]at Hwt;have Htk:=Aa (fun W (h:G0 W b p t1 b1)=>J7 b p t1 [93] b1 W h aI);have HK:=Aa (fun s=>(rfl:Am S 1000 N k s=Am S 1000 N k s));clear h hw H hq ht1 hb1 HK;have HF0:=Aa (K0.init (k:=k) HS.o (T:=60) (U:=68));unfold Fi;go_enter func140,ntmps140;go_wp2_with fail;obtain⟨W1,hW1⟩:∃W1,W1=((w.alloc (.cells #[k.signs,k.base,k.name] 60)).alloc (.cells #[.int .u8 0,a6,.int .i64 0,.slice none 0 0] 68)).alloc (.cells #[.int .u8 91,a6,.int .i64 0,.slice none 0 0] 68):=⟨_,rfl⟩
 rw[<-hW1];have hz1:W1.heap.size=w.heap.size+3:=cN;have F1:=@Aa (K0 w b p k t false W1) (by rw[hW1];exact HF0.o.post ((Aq _ _).alloc (Al _) _))
 have K1:=Aa (show Sj (w.heap.size+2+1) (w.heap.size+2) W1 (.int .u8 91) a6 (.int .i64 0) (.slice none 0 0) (.slice none 0 0) []from by
  have hbk:Qk W1 (w.heap.size+2):=by rw[hW1];have:=Qk.new ((w.alloc (.cells #[k.signs,k.base,k.name] 60)).alloc (.cells #[.int .u8 0,a6,.int .i64 0,.slice none 0 0] 68)) #[.int .u8 91,a6,.int .i64 0,.slice none 0 0] 68;simpa using this
  exact⟨by omega,by omega,by omega,hbk,by rw[hW1];simp[go_sem],by rw[hW1];simp[go_sem],by rw[hW1];simp[go_sem],by rw[hW1];simp[go_sem],World.ownsRow_nil _ _ _ _,by simp⟩)
 clear hW1 HF0;refine(Hwt.o _ F1.o.1.1).mono ?_;rintro e W2 ⟨rfl,hs2⟩;have F2:=Aa (F1.o.step hb0 hs2);have K2:=Aa (K1.o.step hs2.2 aI aI);clear hs2 F1 K1;go_wp2_with fail;refine(Htk.o _ F2.o.1.1).mono ?_;rcases hy:Bg [93] t1 b1 with _|r
 ·have Hy:=Aa hy;clear hy;rintro e W3 ⟨rfl,hs3⟩;simp only[Option.getD_none]at hs3;have F3:=Aa (F2.o.step hb0 hs3);have K3:=Aa (K2.o.step hs3.2 aI aI);clear hs3 F2 K2;go_wp2_with fail;go_loopw [] (fun wr=>∃(xs:List (Vl × Value)) (A:Option Addr) (n c:Nat) (tt:List UInt8),tt.length<=t1.length/\wr.cell? (b,1)=tt/\Hid (K0 w b p k tt b1 wr)/\Hid (Sj (w.heap.size+2+1) (w.heap.size+2) wr (.int .u8 91) a6 (.int .i64 0) (.slice A n c) (.slice A n c) xs)/\Hid (LI (Am S 1000 N k) t1 b1 (Av xs) tt))
   (fun wr=>match wr.cell? (b,1)with|some (.string s)=>s.size|_=>0)
  case atStart=>exact⟨[],none,0,0,t1,Al _,F3.o.1.1.2.2.2.1,F3.o,K3.o,LI.init _ _ _⟩
  case round=>
   obtain⟨xs,A,n,c,tt,htl,c1,F,K,hI⟩:=hrel;have s2:=F.o.1.1.2.2.2.2;have hxl:xs.length<=900:=by have:=hI.o.len;simp[Av]at this;omega
   cases b1 with
   |true=>
    go_wp2_with fail;have Hw9:=Aa (fun W (h:G0 W b p tt true)=>Dx b p tt [93] true W h aI);refine(Hw9.o _ F.o.1.1).mono ?_;rintro e W7 ⟨rfl,hs7⟩;have F7:=Aa (F.o.step hb0 hs7);have K7:=Aa (K.o.step hs7.2 aI aI);have hfin:=Aa (HQ.o.trans ((Aa (hI.o.bad (N:=N))).o.fin Ht1.o Hb1.o Hy.o));have hle9:=Ff 93 tt true;have hE9:=(Aa (hI.o.bad (N:=N))).o.2.1;obtain⟨t4,ht4⟩:∃t4,t4=(Bg [93] tt true).getD tt:=⟨_,rfl⟩
    obtain⟨b4,hb4⟩:∃b4,b4=(Bg [93] tt true).isNone:=⟨_,rfl⟩
    rw[<-ht4]at F7 hfin hle9;rw[<-hb4]at F7 hfin;have e7:(Av xs).length=(xs).length:=eJ;obtain⟨ys,hys⟩:∃ys,ys=xs:=⟨_,rfl⟩
    rw[<-hys]at K7 hfin hE9 e7;have HB9:=Aa (Aa (hI.o.bad (N:=N))).o.2.2;rw[<-hys]at HB9;have hyl:ys.length<=1000:=by rw[hys];omega
    have d0:=K7.o.c0;have d1:=K7.o.c1;have d2:=K7.o.c2;have d3:=K7.o.c3;have s7:=F7.o.1.1.2.1.live 2;have s8:=F7.o.1.1.2.2.2.2;have q7:=F7.o.1.1.1;have hn7:n=ys.length:=Jl K7.o.row;subst hn7;clear hs7 ht4 hb4 hys;by_cases h20:ys.length<=20
    ·have t20:decide ((20:Int)<(ys.length:Int))=false:=aD aI;go_wp2_with ((with_reducible refine Ac (op:=⟨none,.store 68 _ _,_,_,_,none⟩) rfl 68 _ _ rfl (w.heap.size+1) 0 [.int .u8 91,a6,.int .i64 0,.slice A ys.length c] ?_ ?_ ?_ ?_ ?_ ?_);rfl;rfl;(exact F7.o.2.2.1);kernel_rfl;(simp[Value.oneCell']);intro w9 HS9)
     have Z:=K0.fin (t:=t) (N:=N+1) (v:=.mk 91 [] 0 (Av ys)) (sl:=.slice A ys.length c) (r:=q) F7.o hb0 HS9.o ((K7.o.done hyl).mono fun c hc _=>by omega) cV
      cV (.mk aL aI aK HB9.o) aI dO
     exact jr
    have t20:decide ((20:Int)<(ys.length:Int))=true:=aE aI;have F8:=Aa (F7.o.step hb0 ⟨F7.o.1.1.setBad true,Ai _ b 2 (.bool true)⟩);have K8:=Aa (K7.o.step (Ai _ b 2 (.bool true)) aI aI);go_wp2_with ((with_reducible refine Ac (op:=⟨none,.store 68 _ _,_,_,_,none⟩) rfl 68 _ _ rfl (w.heap.size+1) 0 [.int .u8 91,a6,.int .i64 0,.slice A ys.length c] ?_ ?_ ?_ ?_ ?_ ?_);rfl;rfl;(exact F8.o.2.2.1);kernel_rfl;(simp[Value.oneCell']);intro w9 HS9)
    have Z:=K0.fin (t:=t) (N:=N+1) (v:=.mk 91 [] 0 (Av ys)) (sl:=.slice A ys.length c) (r:=q) F8.o hb0 HS9.o ((K8.o.done hyl).mono fun c hc _=>by omega) dI
     dI (.mk aL aI aK HB9.o) aI dO
    exact jr
   |false=>
    have h1N:=HL1.o rfl;go_wp2_with fail;refine Xa [17,18,19,20,21,22,23,24,999]
     (fun ix v W=>match ix with|0=>v=(w,2,3)|1=>v=.slice A n c|2=>v=b|3=>v=Fi k|4=>∃x s,v=Gf x s|5=>∃g,v=.slice (some ⟨g,0,none⟩) 1 1|6=>∃A n c,v=.slice A n c|7=>v=(w,2,3)|_=>True)
     (fun L U W=>Qrf w b (w.heap.size+2) p k (.int .u8 91) a6 (.int .i64 0) (.slice A n c) xs tt false N (Am S 1000 N k tt) (L 4) (L 5) (L 6) (L 8) (U 4) (U 5) (U 6) W) (⟨⟨tt,false,F.o.post (Aq _ _).drew,fun _=>⟨rfl,rfl⟩⟩,fun _=>K.o.after (Aq _ _).drew,fun h=>Bool.noConfusion h⟩) ?_ ?_
    ·repeat (first|exact Bb.nil|(refine Bb.cons ?_ ?_;rotate_left))
     all_goals
      rintro L U W hL hpre HR Hdep K hK;obtain⟨⟨t2,bad2,hF2,hF2'⟩,R2,R3⟩:=HR.o;have k0:=Ab hF2.2.1 0 rfl;have k1:=Ab hF2.2.1 1 rfl;have k2:=Ab hF2.2.1 2 rfl;simp only[am]at k0 k1 k2;first|(simp[Region.binds]at hpre;done)|simp[Region.binds]at hpre|clear hpre
     ·exact fP
     ·have h6:L 6=false:=Ct Hdep.o 6 1 rfl hL;have g3:=(R2 h6).c3;exact jd
     ·exact fP
     ·go_simp;first|exact hK (Fi k) _ _ rfl Ae HR.o rfl|exact hK (Fi k) _ _ rfl Ae HR.o aJ
     ·have h5:L 5=false:=Ct Hdep.o 5 4 rfl hL;have h6:L 6=false:=Ct Hdep.o 6 5 rfl h5;have h8:L 8=false:=Ct Hdep.o 8 6 rfl h6;obtain⟨rfl,rfl⟩:=hF2' hL;go_simp;refine(HH.o t2 false _ (hF2.1.env HW.o hb) hF2.1.1 aI (fun _=>by omega)).mono ?_;rintro e w5 ⟨v,sl,t',rfl,hk5,hs5,hx5,hB5,hl5,hn5⟩;simp only[an,if_false]at hx5 hs5;have hF5:=hF2.step hb0 hs5;have hK5:=(R2 h6).step hs5.2 aI aI;have hks:Eb (fun g=>w.heap.size+2+1<=g/\(Value.slice A n c).ownBlock≠some g) w5 sl v.kids:=hk5.mono fun c hc _=>⟨by have:=(R2 h6).bs;omega,fun e=>by have:=((R2 h6).row.lt c e).2;omega⟩
      exact hK (Gf v sl) _ _ ⟨v,sl,rfl⟩ Ae ⟨⟨t',_,hF5,fun h=>by simp at h⟩,fun _=>hK5,fun _=>⟨v,sl,t',rfl,⟨hx5,hB5,hl5,hn5⟩,hF5,fun _=>hks,fun h=>absurd (h5.symm.trans aU) aL,fun h=>absurd (h6.symm.trans aU) aL,fun h=>absurd (h8.symm.trans aU) aL⟩⟩ aJ
     ·have h6:L 6=false:=Ct Hdep.o 6 5 rfl hL;have h8:L 8=false:=Ct Hdep.o 8 6 rfl h6;obtain⟨v,sl,t',u4,hrd,hF3,hks,_,_,_⟩:=R3 hpre.1;obtain⟨A7,c7,rfl⟩:=(hks h6).form;have hba:Below W W (W.alloc (.cells (Ps (v,.slice A7 v.kids.length c7)).toArray 68)):=(Aq _ _).alloc (Al _) _;unfold Gf at u4;go_simp;exact hK (.slice (W,0) 1 1) _ _ ⟨W.heap.size,rfl⟩ Ae ⟨⟨t',_,hF3.post hba,fun h=>absurd (hpre.1.symm.trans aU) aL⟩,fun _=>(R2 h6).after hba,fun _=>⟨v,_,t',u4,hrd,hF3.post hba,fun _=>(hks h6).after hba,fun _ _=>⟨W,rfl,rfl,R2 h6,hks h6,hF3⟩,fun h=>absurd (h6.symm.trans aU) aL,fun h=>absurd (h8.symm.trans aU) aL⟩⟩ (by simp[Act.put,u4])
     ·have h8:L 8=false:=Ct Hdep.o 8 6 rfl hL;obtain⟨lv,uv⟩:=hpre.1;have ls:L 5=true:=hpre.2.1.1;have lc:L 4=true:=hpre.2.2.1;obtain⟨v,sl,t',u4,hrd,hF3,hks,hs,_,_⟩:=R3 lc;obtain⟨W7,rfl,u5,hK7,hk7,hF7⟩:=hs ls hL;obtain⟨A7,c7,e7⟩:=hk7.form;have hlen7:=hK7.row;rw[if_pos dm];refine Ml W7 (.tmp 18) (.tmp 22) 66 rfl (w.heap.size+2+1) 68 (.agg #[.int .u8 0,a6,.int .i64 0,.slice none 0 0]) 4 56 underlying66 Yn rfl aL (Ps (v,sl)) rfl (Yl _ (by rw[e7];rfl)) (.slice A n c) xs.length (xs.flatMap Ps) uv u5 hK7.row bc aI hK7.bs ?_;intro v' w' hown hg hwh;obtain⟨A5',n5',c5',rfl⟩:=Jy hown;have hKa:=hK7.app (x:=(v,sl)) hk7 hown hg hwh;have hFa:K0 w b p k t' (Am S 1000 N k tt).isNone w':=hF7.app hb0 hg (fun c e=>by have:=(hK7.row.lt c e).1;omega);exact hK _ _ _ ⟨A5',n5',c5',rfl⟩ Ae ⟨⟨t',_,hFa,fun h=>absurd (lc.symm.trans aU) aL⟩,fun h=>by simp at h,fun _=>⟨v,sl,t',u4,hrd,hFa,fun h=>by simp at h,fun _ h=>by simp at h,fun _ _=>⟨A5',n5',c5',rfl,hKa⟩,fun h=>absurd (h8.symm.trans aU) aL⟩⟩ rfl
     ·exact fP
     ·obtain⟨la,A5',n5',c5',ua⟩:=hpre.2.1;have up:=hpre.1.2;have ls:L 5=true:=by
       cases h5:L 5 with
       |true=>rfl
       |false=>exact absurd (la.symm.trans (Ct Hdep.o 6 5 rfl h5)) aL
      have lc:L 4=true:=by
       cases h4:L 4 with
       |true=>rfl
       |false=>exact absurd (ls.symm.trans (Ct Hdep.o 5 4 rfl h4)) aL
      obtain⟨v,sl,t',u4,hrd,hF3,_,_,ha,_⟩:=R3 lc;obtain⟨A6',n6',c6',ua',hKa⟩:=ha la hL;rw[ua]at hKa;have hcell:=hKa.c3;have hfz:=hKa.bk.live 3;have hst:=hKa.store;have hst2:Sj (w.heap.size+2+1) (w.heap.size+2) (W.setCell ⟨w.heap.size+2,3,none⟩ (.slice A5' n5' c5')) (.int .u8 91) a6 (.int .i64 0) (U 6) (U 6) (xs++[(v,sl)]):=by rw[ua];exact hst
      have hFs:K0 w b p k t' (Am S 1000 N k tt).isNone (W.setCell ⟨w.heap.size+2,3,none⟩ (.slice A5' n5' c5')):=hF3.put hb0 aI _;go_simp;exact hK undef _ _ Ae Ae ⟨⟨t',_,hFs,fun h=>absurd (lc.symm.trans aU) aL⟩,fun h=>absurd (la.symm.trans aU) aL,fun _=>⟨v,sl,t',u4,hrd,hFs,fun h=>absurd (la.symm.trans aU) aL,fun _ h=>absurd (la.symm.trans aU) aL,fun _ h=>by simp at h,fun _=>⟨A5',n5',c5',ua,hst2⟩⟩⟩ (by simp[Act.put,hpre,up,ua,u4])
    rintro L U W hL hφ hR;clear hφ;obtain⟨_,_,h3⟩:=hR;obtain⟨v,sl,t',_,hrd,hF,_,_,_,hd⟩:=h3 (hL 4 aL);obtain⟨A5,n5,c5,e5,hK5⟩:=hd (hL 8 aL);rw[e5]at hK5;have F5:=Aa hF;have K5:=Aa hK5;have Rd5:=Aa hrd;have ht5:=hrd.2.2.1;clear hL h3 hd hF hK5 hrd;have Htk5:=Aa (fun W (h:G0 W b p t' (Am S 1000 N k tt).isNone)=>J7 b p t' [44] (Am S 1000 N k tt).isNone W h aI);go_wp2_with fail;refine(Htk5.o _ F5.o.1.1).mono ?_;rcases hc:Bg [44] t' (Am S 1000 N k tt).isNone with _|r
    ·have Hc:=Aa hc;clear hc;rintro e W6 ⟨rfl,hs6⟩;simp only[Option.getD_none]at hs6;have F6:=Aa (F5.o.step hb0 hs6);have K6:=Aa (K5.o.step hs6.2 aI aI)
     have E6:=Aa (show LE (Am S 1000 N k) t1 false (Av (xs++[(v,sl)])) t' (Am S 1000 N k tt).isNone N from by
      have:=hI.o.brk (N:=N) Rd5.o.1 Hc.o Rd5.o.2.1 aI Rd5.o.2.2.2;simpa [Av]using this)
     clear hs6 F5 K5 Hc;go_wp2_with fail;have Hw9:=Aa (fun W (h:G0 W b p t' (Am S 1000 N k tt).isNone)=>Dx b p t' [93] (Am S 1000 N k tt).isNone W h aI);refine(Hw9.o _ F6.o.1.1).mono ?_;rintro e W7 ⟨rfl,hs7⟩;have F7:=Aa (F6.o.step hb0 hs7);have K7:=Aa (K6.o.step hs7.2 aI aI);have hfin:=Aa (HQ.o.trans (E6.o.fin Ht1.o Hb1.o Hy.o));have hle9:=Ff 93 t' (Am S 1000 N k tt).isNone;have hE9:=E6.o.2.1;obtain⟨t4,ht4⟩:∃t4,t4=(Bg [93] t' (Am S 1000 N k tt).isNone).getD t':=⟨_,rfl⟩
     obtain⟨b4,hb4⟩:∃b4,b4=(Bg [93] t' (Am S 1000 N k tt).isNone).isNone:=⟨_,rfl⟩
     rw[<-ht4]at F7 hfin hle9;rw[<-hb4]at F7 hfin;have e7:(Av (xs++[(v,sl)])).length=((xs++[(v,sl)])).length:=eJ;obtain⟨ys,hys⟩:∃ys,ys=(xs++[(v,sl)]):=⟨_,rfl⟩
     rw[<-hys]at K7 hfin hE9 e7;have HB9:=Aa E6.o.2.2;rw[<-hys]at HB9;have hyl:ys.length<=1000:=by rw[hys];simp;omega
     have d0:=K7.o.c0;have d1:=K7.o.c1;have d2:=K7.o.c2;have d3:=K7.o.c3;have s7:=F7.o.1.1.2.1.live 2;have s8:=F7.o.1.1.2.2.2.2;have q7:=F7.o.1.1.1;have hn7:n5=ys.length:=Jl K7.o.row;subst hn7;clear hs7 ht4 hb4 hys;by_cases h20:ys.length<=20
     ·have t20:decide ((20:Int)<(ys.length:Int))=false:=aD aI;go_wp2_with ((with_reducible refine Ac (op:=⟨none,.store 68 _ _,_,_,_,none⟩) rfl 68 _ _ rfl (w.heap.size+1) 0 [.int .u8 91,a6,.int .i64 0,.slice A5 ys.length c5] ?_ ?_ ?_ ?_ ?_ ?_);rfl;rfl;(exact F7.o.2.2.1);kernel_rfl;(simp[Value.oneCell']);intro w9 HS9)
      have Z:=K0.fin (t:=t) (N:=N+1) (v:=.mk 91 [] 0 (Av ys)) (sl:=.slice A5 ys.length c5) (r:=q) F7.o hb0 HS9.o ((K7.o.done hyl).mono fun c hc _=>by omega) cV
       cV (.mk aL aI aK HB9.o) aI dO
      exact ju
     have t20:decide ((20:Int)<(ys.length:Int))=true:=aE aI;have F8:=Aa (F7.o.step hb0 ⟨F7.o.1.1.setBad true,Ai _ b 2 (.bool true)⟩);have K8:=Aa (K7.o.step (Ai _ b 2 (.bool true)) aI aI);go_wp2_with ((with_reducible refine Ac (op:=⟨none,.store 68 _ _,_,_,_,none⟩) rfl 68 _ _ rfl (w.heap.size+1) 0 [.int .u8 91,a6,.int .i64 0,.slice A5 ys.length c5] ?_ ?_ ?_ ?_ ?_ ?_);rfl;rfl;(exact F8.o.2.2.1);kernel_rfl;(simp[Value.oneCell']);intro w9 HS9)
     have Z:=K0.fin (t:=t) (N:=N+1) (v:=.mk 91 [] 0 (Av ys)) (sl:=.slice A5 ys.length c5) (r:=q) F8.o hb0 HS9.o ((K8.o.done hyl).mono fun c hc _=>by omega) dI
      dI (.mk aL aI aK HB9.o) aI dO
     exact ju
    have Hc:=Aa hc;have hcl:=Kj hc;clear hc;rintro e W6 ⟨rfl,hs6⟩;simp only[Option.getD_some]at hs6;cases hk:Am S 1000 N k tt with
    |none=>rw[hk,Cp]at Hc;exact absurd Hc.o aK
    |some y=>
     have Hk:=Aa hk;rw[hk]at hs6 F5 Rd5;have F6:=Aa (F5.o.step hb0 hs6);have K6:=Aa (K5.o.step hs6.2 aI aI)
     have I6:=Aa (show LI (Am S 1000 N k) t1 false (Av (xs++[(v,sl)])) r from by
      obtain⟨e1,e2⟩:=Rd5.o.1 y rfl;have hg:=HG.o tt y.1 y.2 (by rw[Hk.o]);have h44:As 44 t'=some r:=by have:=Hc.o;rw[Hk.o,Cp]at this;simpa using this
      have:=hI.o.step (v:=v) (t':=t') (by rw[Hk.o,e1,e2]) (by rw[hg,e1,e2];simp) h44 Rd5.o.2.1 aI;simpa [Av]using this)
     have c6:=F6.o.1.1.2.2.2.1;clear hs6 F5 K5 hk;go_wp2_with fail;go_roundw
     case rel=>exact⟨xs++[(v,sl)],A5,n5,c5,r,by omega,c6,F6.o,K6.o,I6.o⟩
     case measure=>simp[c1,c6,ByteArray.size];omega
 have Hy:=Aa hy;have hlt:=Kj hy;clear hy;rintro e W3 ⟨rfl,hs3⟩;simp only[Option.getD_some]at hs3;have F3:=Aa (F2.o.step hb0 hs3);have K3:=Aa (K2.o.step hs3.2 aI aI);clear hs3 F2 K2;have d0:=K3.o.c0;have d1:=K3.o.c1;have d2:=K3.o.c2;have d3:=K3.o.c3;go_wp2_with ((with_reducible refine Ac (op:=⟨none,.store 68 _ _,_,_,_,none⟩) rfl 68 _ _ rfl (w.heap.size+1) 0 [.int .u8 91,a6,.int .i64 0,.slice none 0 0] ?_ ?_ ?_ ?_ ?_ ?_);rfl;rfl;(exact F3.o.2.2.1);kernel_rfl;(simp[Value.oneCell']);intro w9 HS9)
 have hq2:q=some (.mk 91 [] 0 [],r):=by
  have h1:=Ht1.o;have h2:=Hb1.o;have h3:=Hy.o;rw[HQ.o];rw[Cp]at h1 h2 h3;unfold Xx;simp only[an,if_false]at h1 h2;cases h9:As 91 t with
  |none=>rw[h9]at h2;simp at h2;subst h2;simp at h3
  |some z=>
   rw[h9]at h1 h2;simp at h1 h2;subst h1 h2;simp only[an,if_false]at h3;simp only[h3]
 have Z:=K0.fin (t:=t) (N:=N+1) (v:=.mk 91 [] 0 []) (sl:=.slice none 0 0) (r:=q) F3.o hb0 HS9.o (Eb.nil _ _) (by rw[hq2];cases b1;rfl;have:=Hy.o;rw[Cp]at this;simp at this)
  (by rw[hq2];simp) (Ft aL aL) aI (by simp[Aw,Di,Gl,Ax];omega)
 exact aG (v:=.agg (Ew (.mk 91 [] 0 []) (.slice none 0 0)).toArray) (Ba results140 _ _ (w.heap.size+1) _ _ rfl Z.2 underlying68 rfl aN) rfl Z.1
def Qlt(q1:Option ((Fd × Vl) × List UInt8))(t2:List UInt8):Option (Vl × List UInt8):=match q1 with
 |none=>none
 |some (p,_)=>if (Bg [62] t2 false).isNone then none else some (.mk 85 [] p.1.tag [p.2],(Bg [62] t2 false).getD t2)
theorem Qn0(K:Kd->List UInt8->Option (Vl × List UInt8))(fs:List Fd)(t t1 t2:List UInt8)(b1:Bool)(q1:Option ((Fd × Vl) × List UInt8))(h1:t1=(Bg [60] t false).getD t)(hb1:b1=(Bg [60] t false).isNone)(h2:q1=if b1 then none else Dh K fs t1)(h3:∀y,q1=some y->t2=y.2):
  (match As 60 t with
   |none=>none
   |some r=>match Dh K fs r with
    |none=>none
    |some (p,q)=>match As 62 q with|some z=>some (Vl.mk 85 [] p.1.tag [p.2],z)|none=>none) =
  Qlt q1 t2:=by
 rw[Cp]at h1 hb1;simp only[an,if_false]at h1 hb1;cases hy:As 60 t with
 |none=>rw[hy]at hb1;simp at hb1;subst hb1;simp at h2;subst h2;simp[Qlt]
 |some r=>
  rw[hy]at h1 hb1;simp at h1 hb1;subst h1 hb1;simp only[an,if_false]at h2;subst h2;simp only;cases hk:Dh K fs t1 with
  |none=>simp[Qlt]
  |some y=>
   obtain⟨p,q⟩:=y;obtain rfl:=h3 _ hk;simp only[Qlt,Cp,an,if_false];cases As 62 t2<;>simp
structure Qfe(w0 w:World)(b B X:Nat)(p:Value)(t:List UInt8)(bad:Bool)(g:Fd)(x:Vl)(fp:Value)(sl h2 h3:Value)(W:World):Prop where
 f:Qt w b p w.heap.size t bad W
 v:Vb B W (.int .u8 85) a6 h2 h3
 xr:W.rangeAt X 0 [.int .u8 61,a6,(g.tag:Int),sl]
 k:Eb (fun c=>B<c) W sl [x]
 p:Kf w0.heap.size W fp (some g)
 lw:Below w0 w0 W
theorem Qfe.put{w0 w W:World}{b B X o:Nat}{p:Value}{t:List UInt8}{bad:Bool}{g:Fd}{x:Vl}{fp sl h2 h3 h2' h3':Value}(h:Qfe w0 w b B X p t bad g x fp sl h2 h3 W)(u:Value)(hV:Vb B (W.setCell ⟨B,o,none⟩ u) (.int .u8 85) a6 h2' h3')
  (hb:b<w.heap.size) (hB:w.heap.size<B) (hX:B<X) (h0:w0.heap.size<=w.heap.size):Qfe w0 w b B X p t bad g x fp sl h2' h3' (W.setCell ⟨B,o,none⟩ u):=by
 have hg:=Ai W B o u;have hlw:Below w0 w0 (W.setCell ⟨B,o,none⟩ u):=h.lw.grown hg h.lw.size fun k hk=>by injection hk with hk;omega
 exact⟨h.f.app hb hg (fun k e=>by injection e with e;omega),hV,Ee h.xr hg ck,h.k.grown hg (fun c hc e=>by injection e with e;omega),h.p.via h.lw hlw,hlw⟩
theorem Qfe.drew{w0 w W:World}{b B X:Nat}{p:Value}{t:List UInt8}{bad:Bool}{g:Fd}{x:Vl}{fp sl h2 h3:Value}(h:Qfe w0 w b B X p t bad g x fp sl h2 h3 W):Qfe w0 w b B X p t bad g x fp sl h2 h3 W.drew:=
 ⟨h.f.post (Aq _ _).drew,h.v.after (Aq _ _).drew,h.xr,h.k.after (Aq _ _).drew,h.p.via h.lw h.lw.drew,h.lw.drew⟩
theorem Qlv(w0:World)(b N:Nat)(p:Value)(S:List Ty)(x:PT)(hx:Tc w0 x)(h5:x.ty.sort=85)(t:List UInt8)(w:World)(hw:Below w0 w0 w)(hb:w0.heap.size<=b)(h:G0 w b p t false)(hl:t.length<=900)(hN:t.length<=N)(hN2:N<=2000)
  (htg:∀f∈x.ty.fields,f.tag<=200) (H:∀f∈x.ty.fields,IvC w0 b p S N f.kind) (q:Option (Vl × List UInt8)) (hq:q=Kp S (Am S 1000 N) x.ty t):
  Calls prog 143 #[b,x.blk] w (Ma w b p t (N+1) q):=by
 have HQ:=Aa (hq.trans (by unfold Kp;rw[if_neg dk,if_pos h5]));have HS:=Aa h;have HW:=Aa hw;have hb0:=h.1;have hx0:=hx.1;have hww:=hw.size;have x0:=(hw.cell (p:=⟨x.blk,0,none⟩) hx0).trans hx.2.2.1;have hxw:x.blk<w.heap.size:=aI;have hxn:¬(x.blk=w.heap.size):=aI;have hxn2:¬(x.blk=w.heap.size+1):=aI;rw[h5]at x0;have x0':w.cell? (x.blk,0)=some (.int .u8 85):=x0;clear x0;have hm:=Ff 60 t false;have Hwt:=Aa (fun W (h:G0 W b p t false)=>Dx b p t [60] false W h aI);obtain⟨t1,ht1⟩:∃t1,t1=(Bg [60] t false).getD t:=⟨_,rfl⟩
 obtain⟨b1,hb1⟩:∃b1,b1=(Bg [60] t false).isNone:=⟨_,rfl⟩
 obtain⟨q1,hq1⟩:∃q1,q1=if b1 then none else Dh (Am S 1000 N) x.ty.fields t1:=⟨_,rfl⟩
 have HQ2:=Aa (fun t2 h3=>HQ.o.trans (Qn0 (Am S 1000 N) x.ty.fields t t1 t2 b1 q1 ht1 hb1 hq1 h3));rw[<-ht1]at hm;rw[<-ht1,<-hb1]at Hwt;have Hfd:=Aa (fun W (h1:Below w0 w0 W) (h2:G0 W b p t1 b1)=>Qe5 w0 b N p S x hx t1 W h1 hb b1 h2 aI (fun _=>by omega) hN2 htg H q1 hq1);clear ht1 hb1 h hw hq h5 HQ hq1 H;go_enter func143,ntmps143;go_wp2_with fail;have F1:=Aa ((Qt.init HS.o (T:=68)).post ((Aq _ _).alloc (Al _) (.cells #[.int .u8 85,a6,.int .i64 0,.slice none 0 0] 68)));have V1:=@Aa (Vb (w.heap.size+1) _ _ _ _ _) (by have:=Vb.new (w:=w.alloc (.cells #[.int .u8 0,a6,.int .i64 0,.slice none 0 0] 68)) (h0:=.int .u8 85) (h1:=a6) (h2:=.int .i64 0) (h3:=.slice none 0 0) (T:=68);simpa using this);refine(Hwt.o _ F1.o.1.1).mono ?_;rintro e w2 ⟨rfl,hs2⟩;have F2:=Aa (F1.o.step hb0 hs2);have V2:=Aa (V1.o.grown hs2.2 aO);have hz2:w.heap.size+2<=w2.heap.size:=by have:=hs2.2.size;simp at this;omega
 clear hs2 F1 V1;go_wp2_with fail;refine(Hfd.o _ (F2.o.1.env HW.o hb) F2.o.1.1).mono ?_;rintro e w3 ⟨v,sl,fp,t2,rfl,hk3,hs3,hB3,hl3,hn3,hcase⟩;obtain⟨A7,c7,rfl⟩:=hk3.form;have F3:=Aa (F2.o.step hb0 hs3);have V3:=Aa (V2.o.grown hs3.2 aO);have Hk3:=Aa hk3;have hz3:w2.heap.size<=w3.heap.size:=hs3.2.size;clear hs3 F2 V2 hk3;unfold Gf;have hm3:=Ff 62 t2 q1.isNone;have Hwt2:=Aa (fun W (h:G0 W b p t2 q1.isNone)=>Dx b p t2 [62] q1.isNone W h aI);rcases hcase with⟨rfl,hq1⟩|⟨g,y,hfp,rfl,hfg,hBy,hy⟩
 ·have HQ3:=@Aa (q=none) (by rw[HQ2.o t2 (by rw[hq1];simp),hq1];rfl);have hw3:Bg [62] t2 q1.isNone=none:=by rw[hq1,Cp];rfl
  rw[hw3]at Hwt2;simp only[Option.getD_none,Option.isNone_none]at Hwt2;clear hq1 hw3 HQ2 hB3;go_wp2_with fail;have F4:=Aa (F3.o.post ((Aq w3.heap.size w3).alloc (Al _) (.cells #[.int .u8 (v.what.toNat:Int),v.text,(v.tag:Int),.slice A7 v.kids.length c7] 68)));have V4:=Aa (V3.o.after ((Aq w3.heap.size w3).alloc (Al _) (.cells #[.int .u8 (v.what.toNat:Int),v.text,(v.tag:Int),.slice A7 v.kids.length c7] 68)));refine(Hwt2.o _ F4.o.1.1).mono ?_;rintro e w5 ⟨rfl,hs5⟩;have F5:=Aa (F4.o.step hb0 hs5);have V5:=Aa (V4.o.grown hs5.2 aO);have d0:=V5.o.c0;have d1:=V5.o.c1;have d2:=V5.o.c2;have d3:=V5.o.c3;clear hs5 F4 V4;go_wp2_with ((with_reducible refine Ac (op:=⟨none,.store 68 _ _,_,_,_,none⟩) rfl 68 _ _ rfl w 0 [.int .u8 85,a6,.int .i64 0,.slice none 0 0] ?_ ?_ ?_ ?_ ?_ ?_);rfl;rfl;(exact F5.o.2.1);kernel_rfl;(simp[Value.oneCell']);intro w9 HS9)
  have Z:=Qt.fin (v:=.mk 85 [] 0 []) (sl:=.slice none 0 0) F5.o hb0 HS9.o (Eb.nil _ _);exact aG (v:=.agg (Ew (.mk 85 [] 0 []) (.slice none 0 0)).toArray) (Ba results143 _ _ w.heap.size _ _ rfl Z.2.2 underlying68 rfl aN) rfl ⟨.mk 85 [] 0 [],_,t2,rfl,Z.1,by rw[HQ3.o];exact Z.2.1,by rw[HQ3.o];simp,Ft aL aL,by omega,by simp[Aw,Di,Gl,Ax,Fa];omega⟩
 have HQ3:=Aa (HQ2.o t2 (fun z hz=>by rw[hy z hz]));obtain⟨t4,ht4⟩:∃t4,t4=(Bg [62] t2 q1.isNone).getD t2:=⟨_,rfl⟩
 obtain⟨b4,hb4⟩:∃b4,b4=(Bg [62] t2 q1.isNone).isNone:=⟨_,rfl⟩
 rw[<-ht4,<-hb4]at Hwt2;rw[<-ht4]at hm3
 have HQ4:=Aa (show q=if b4 then none else some (.mk 85 [] g.tag [y],t4)from by
  rw[HQ3.o];cases hq1:q1 with
  |none=>rw[hq1,Cp]at hb4;simp at hb4;subst hb4;rfl
  |some z=>
   obtain⟨z1,z2⟩:=z;have:=hy _ hq1;injection this with e1 e2;subst e1;rw[hq1]at ht4 hb4;unfold Qlt;simp only;rw[ht4,hb4];rfl)
 have hpl:=Jo (g,y);obtain⟨fb,fo,rfl,hfb,hfr⟩:=hfp;have HP3:=@Aa (Kf w0.heap.size w3 (.pointer (some ⟨fb,fo,none⟩)) (some g)) ⟨fb,fo,rfl,hfb,hfr⟩;have hgt:=htg g (Ay hfg).2;have HBy:=Aa hBy;clear ht4 hb4 HQ2 HQ3 hB3 hfr hy hBy hfg;simp only[Ea,Vl.what,Vl.text,Vl.tag,Vl.kids,List.length_singleton]at Hk3 hn3 ⊢;go_wp2_with fail;obtain⟨W4,hW4⟩:∃W4,W4=w3.alloc (.cells #[.int .u8 61,a6,(g.tag:Int),.slice A7 1 c7] 68):=⟨_,rfl⟩
 have hb4:Below w3 w3 W4:=by rw[hW4];exact(Aq _ _).alloc (Al _) _
 have X4:=@Aa (W4.rangeAt w3 0 [.int .u8 61,a6,(g.tag:Int),.slice A7 1 c7]) (by rw[hW4];exact Br w3 [.int .u8 61,a6,(g.tag:Int),.slice A7 1 c7] _);have hz4:w3.heap.size<W4.heap.size:=by rw[hW4];simp
 have F4:=Aa (F3.o.post hb4);have V4:=Aa (V3.o.after hb4);have Hk4:=Aa (Hk3.o.after hb4);have HP4:=Aa (HP3.o.via (F3.o.1.env HW.o hb) (F4.o.1.env HW.o hb));have hW4':w3.alloc (.cells #[.int .u8 ((61:UInt8).toNat:Int),([]:List UInt8),(g.tag:Int),.slice A7 1 c7] 68)=W4:=hW4.symm;first|rw[<-hW4]|rw[hW4']
 generalize w3.heap.size=BX at *;clear hW4 hW4' hb4 F3 V3 Hk3 HP3;refine(Hwt2.o _ F4.o.1.1).mono ?_;rintro e w5 ⟨rfl,hs5⟩;have F5:=Aa (F4.o.step hb0 hs5);have V5:=Aa (V4.o.grown hs5.2 aO)
 have U5:=Aa (show Qfe w0 w b (w.heap.size+1) BX p t4 b4 g y (.pointer (some ⟨fb,fo,none⟩)) (.slice A7 1 c7) (.int .i64 0) (.slice none 0 0) w5 from
  ⟨F5.o,V5.o,Ee X4.o hs5.2 aO,(Hk4.o.grown hs5.2 (fun c hc e=>by injection e with e;omega)).mono (fun c hc _=>by omega),HP4.o.via (F4.o.1.env HW.o hb) (F5.o.1.env HW.o hb),F5.o.1.env HW.o hb⟩)
 clear hs5 F4 V4 X4 Hk4 HP4;go_wp2_with fail;refine Xa [107,108,109,110,111,112,113,999,114,998]
  (fun ix v W=>match ix with|0=>v=.pointer (some ⟨fb,fo,none⟩)|1=>v=.pointer (some ⟨fb,fo,none⟩)|2=>v=.pointer (some ⟨fb,fo,none⟩)|3=>v=(g.tag:Int)|4=>v=(BX,3)|5=>v=.slice A7 1 c7|6=>v=(w,1,2)|8=>v=(w,1,3)|_=>True)
  (fun L U W=>Qfe w0 w b (w.heap.size+1) BX p t4 b4 g y (.pointer (some ⟨fb,fo,none⟩)) (.slice A7 1 c7) (if L 7=true then (g.tag:Int)else .int .i64 0) (if L 9=true then .slice A7 1 c7 else .slice none 0 0) W) (by simpa using U5.o.drew) ?_ ?_
 ·repeat (first|exact Bb.nil|(refine Bb.cons ?_ ?_;rotate_left))
  all_goals
   rintro L U W hL hpre HR Hdep K hK;have hU:=HR.o;have m3:=hU.xr 3 _ rfl;simp only[am]at m3;have fb0:W.cell? ⟨fb,fo,none⟩=(g.tag:Int):=by obtain⟨a1,a2,a3,_,a5⟩:=hU.p;injection a3 with a3;injection a3 with a3;injection a3 with a3 a4;subst a3 a4;simpa using Ab a5 0 rfl
   first|(simp[Region.binds]at hpre;done)|simp[Region.binds]at hpre|clear hpre
  iterate 7
   ·exact fP
  ·have q2:=hU.v.c2;have qf:=hU.v.bk.live 2;have ql:=hU.v.lt;have hst:=hU.put (g.tag:Int) (hU.v.set2 _) hb0 aI aI hww;exact jv
  ·exact fP
  ·have q3:=hU.v.c3;have qf:=hU.v.bk.live 3;have ql:=hU.v.lt;have hst:=hU.put (.slice A7 1 c7) (hU.v.set3 _) hb0 aI aI hww;exact jv
 rintro L U W hL hφ hR;clear hφ;have hU:=hR;simp only[hL 7 aL,hL 9 aL,if_true]at hU;have U6:=Aa hU;have d0:=hU.v.c0;have d1:=hU.v.c1;have d2:=hU.v.c2;have d3:=hU.v.c3;clear hL hR hU;go_wp2_with ((with_reducible refine Ac (op:=⟨none,.store 68 _ _,_,_,_,none⟩) rfl 68 _ _ rfl w 0 [.int .u8 85,a6,(g.tag:Int),.slice A7 1 c7] ?_ ?_ ?_ ?_ ?_ ?_);rfl;rfl;(exact U6.o.f.2.1);kernel_rfl;(simp[Value.oneCell']);intro w9 HS9)
 have Z:=Qt.fin (v:=.mk 85 [] g.tag [y]) (sl:=.slice A7 1 c7) U6.o.f hb0 HS9.o (U6.o.k.mono fun c hc _=>by omega);have hpv:(Aw (.mk 85 [] g.tag [y])).length=(Aw (Ea (g,y))).length+2:=by rw[Qo];simp
 have hn3':(Aw (Ea (g,y))).length+t2.length<=t1.length+8*N:=hn3;exact aG (v:=.agg (Ew (.mk 85 [] g.tag [y]) (.slice A7 1 c7)).toArray) (Ba results143 _ _ w.heap.size _ _ rfl Z.2.2 underlying68 rfl aN) rfl ⟨.mk 85 [] g.tag [y],_,t4,rfl,Z.1,by rw[HQ4.o];cases b4<;>exact Z.2.1,by rw[HQ4.o];cases b4<;>simp,.mk aI (by simp only[Jo]at hn3';simp[Du];omega) aK (fun z hz=>by rw[ar]at hz;subst hz;exact HBy.o),by omega,by omega⟩
theorem Qla(w0:World)(b N:Nat)(p:Value)(XS:List PT)(hsc:To w0 p XS)(hS:Kt (Ah XS))(x:PT)(hx:Tc w0 x)(h2:x.ty.sort=82)(t:List UInt8)(w:World)(hw:Below w0 w0 w)(hb:w0.heap.size<=b)(h:G0 w b p t false)(hl:t.length<=900)(hN:t.length<=N)(hN2:N<=2000)
  (htg:∀f∈x.ty.fields,f.tag<=200) (hfk:∀f∈x.ty.fields,Cw f.kind/\Bu (Ah XS) f.kind/\f.given.length<=1000) (H:∀f∈x.ty.fields,IvC w0 b p (Ah XS) N f.kind)
  (HG:∀f∈x.ty.fields,∀s v r,Am (Ah XS) 1000 N f.kind s=some (v,r)->s=Aw v++r) (q:Option (Vl × List UInt8)) (hq:q=Kp (Ah XS) (Am (Ah XS) 1000 N) x.ty t):
  Calls prog 143 #[b,x.blk] w (Ma w b p t (N+1) q):=by
 have HQ:=Aa (hq.trans (by unfold Kp;rw[if_neg cJ,if_neg cJ]));have Hsc:=Aa hsc;have HSo:=Aa hS;have Hfk:=Aa hfk;have HG:=Aa HG;obtain⟨pb,_,_,_,rfl,_⟩:=hsc;have HS:=Aa h;have HW:=Aa hw;have hb0:=h.1;have hx0:=hx.1;have hww:=hw.size;have x0:=(hw.cell (p:=⟨x.blk,0,none⟩) hx0).trans hx.2.2.1;have hxw:x.blk<w.heap.size:=aI;have hxn:¬(x.blk=w.heap.size):=aI;have hxn2:¬(x.blk=w.heap.size+1):=aI;rw[h2]at x0;have x0':w.cell? (x.blk,0)=some (.int .u8 82):=x0;clear x0;generalize hSS:Ah XS=S at *;have HSS:=Aa hSS;have hm:=Ff 123 t false;have Hwt:=Aa (fun W (h:G0 W b pb t false)=>Dx b _ t [123] false W h aI);obtain⟨t1,ht1⟩:∃t1,t1=(Bg [123] t false).getD t:=⟨_,rfl⟩
 obtain⟨b1,hb1⟩:∃b1,b1=(Bg [123] t false).isNone:=⟨_,rfl⟩
 have Ht1:=Aa ht1;have Hb1:=Aa hb1;rw[<-ht1]at hm;rw[<-ht1,<-hb1]at Hwt;have Htk:=Aa (fun W (h:G0 W b pb t1 b1)=>J7 b _ t1 [125] b1 W h aI);have Hfd:=Aa (fun W tt (h1:Below w0 w0 W) (h2:G0 W b pb tt false) (h3:tt.length<=t1.length)=>Qe5 w0 b N _ S x hx tt W h1 hb false h2 aI (fun _=>by omega) hN2 htg H (Dh (Am S 1000 N) x.ty.fields tt) rfl);clear ht1 hb1 h hw hq h2 H hSS hfk hS;go_enter func143,ntmps143;go_wp2_with fail;have F1:=Aa ((Qt.init HS.o (T:=68)).post ((Aq _ _).alloc (Al _) (.cells #[.int .u8 82,a6,.int .i64 0,.slice none 0 0] 68)))
 have K1:=Aa (show Sj (w.heap.size+1+1) (w.heap.size+1) ((w.alloc (.cells #[.int .u8 0,a6,.int .i64 0,.slice none 0 0] 68)).alloc (.cells #[.int .u8 82,a6,.int .i64 0,.slice none 0 0] 68)) (.int .u8 82) a6 (.int .i64 0) (.slice none 0 0) (.slice none 0 0) []from by
  have hv:=Vb.new (w:=w.alloc (.cells #[.int .u8 0,a6,.int .i64 0,.slice none 0 0] 68)) (h0:=.int .u8 82) (h1:=a6) (h2:=.int .i64 0) (h3:=.slice none 0 0) (T:=68);simp at hv;exact⟨by simp,by simp,by omega,hv.bk,hv.c0,hv.c1,hv.c2,hv.c3,World.ownsRow_nil _ _ _ _,by simp⟩)
 refine(Hwt.o _ F1.o.1.1).mono ?_;rintro e w2 ⟨rfl,hs2⟩;have F2:=Aa (F1.o.step hb0 hs2);have K2:=Aa (K1.o.step hs2.2 aI aI);clear hs2 F1 K1;go_wp2_with fail;refine(Htk.o _ F2.o.1.1).mono ?_;rcases hy:Bg [125] t1 b1 with _|r
 ·have Hy:=Aa hy;clear hy;rintro e W3 ⟨rfl,hs3⟩;simp only[Option.getD_none]at hs3;have F3:=Aa (F2.o.step hb0 hs3);have K3:=Aa (K2.o.step hs3.2 aI aI);clear hs3 F2 K2;go_wp2_with fail
  go_loopw [8] (fun i wr=>∃(ps:List (Fd × Vl)) (xs:List (Vl × Value)) (A:Option Addr) (n c last:Nat) (tt:List UInt8),i=(last:Int)/\tt.length<=t1.length/\wr.cell? (b,1)=tt/\Hid (Av xs=ps.map Ea)/\Hid (Qt w b pb w.heap.size tt b1 wr) /\
    Hid (Sj (w.heap.size+1+1) (w.heap.size+1) wr (.int .u8 82) a6 (.int .i64 0) (.slice A n c) (.slice A n c) xs)/\Hid (RI S (Am S 1000 N) x.ty.fields t1 b1 ps last tt))
   (fun _ wr=>match wr.cell? (b,1)with|some (.string s)=>s.size|_=>0)
  case atStart=>exact⟨[],[],none,0,0,0,t1,rfl,Al _,F3.o.1.1.2.2.2.1,rfl,F3.o,K3.o,RI.init⟩
  case round=>
   obtain⟨ps,xs,A,n,c,last,tt,rfl,htl,c1,Hvs,F,K,hI⟩:=hrel;have s2:=F.o.1.1.2.2.2.2;have hlo:=hI.o.lo;have hhi:=hI.o.hi;have hxl:xs.length<=ps.length:=by have:=congrArg List.length Hvs.o;simp[Av]at this;omega
   cases b1 with
   |true=>
    have E:=hI.o.bad (N:=N);rw[<-Hvs.o]at E;go_wp2_with fail;have hn7:n=xs.length:=Jl K.o.row;subst hn7;have Hw9:=Aa (fun W (h:G0 W b pb tt true)=>Dx b _ tt [125] true W h aI);refine(Hw9.o _ F.o.1.1).mono ?_;rintro e W7 ⟨rfl,hs7⟩;have F7:=Aa (F.o.step hb0 hs7);have K7:=Aa (K.o.step hs7.2 aI aI);have hfin:=Aa (HQ.o.trans (E.fin Ht1.o Hb1.o Hy.o));have hle9:=Ff 125 tt true;obtain⟨_,_,_,hE9,hB9,hL9⟩:=E;generalize (Bg [125] tt true).getD tt=t4 at *;generalize (Bg [125] tt true).isNone=b4 at *;have HB9:=Aa hB9;have hyl:(xs).length<=1000:=d9;have d0:=K7.o.c0;have d1:=K7.o.c1;have d2:=K7.o.c2;have d3:=K7.o.c3;clear hs7 hB9;go_wp2_with ((with_reducible refine Ac (op:=⟨none,.store 68 _ _,_,_,_,none⟩) rfl 68 _ _ rfl w 0 [.int .u8 82,a6,.int .i64 0,.slice A xs.length c] ?_ ?_ ?_ ?_ ?_ ?_);rfl;rfl;(exact F7.o.2.1);kernel_rfl;(simp[Value.oneCell']);intro w9 HS9)
    have Z:=Qt.fin (v:=.mk 82 [] 0 (Av xs)) (sl:=.slice A xs.length c) F7.o hb0 HS9.o ((K7.o.done hyl).mono fun c hc _=>by omega);exact aG (v:=.agg (Ew (.mk 82 [] 0 (Av xs)) (.slice A xs.length c)).toArray) (Ba results143 _ _ w.heap.size _ _ rfl Z.2.2 underlying68 rfl aN) rfl ⟨.mk 82 [] 0 (Av xs),_,t4,rfl,Z.1,by rw[hfin.o];cases b4<;>exact Z.2.1,by rw[hfin.o];cases b4<;>simp,.mk aL aI aK HB9.o,by omega,by rw[T0];simp[Gl,Bs];omega⟩
   |false=>
    go_wp2_with fail;refine(Hfd.o _ tt (F.o.1.env HW.o hb) F.o.1.1 htl).mono ?_;rintro e w4 ⟨v,sl,fp,t',rfl,hk4,hs4,hB4,hl4,hn4,hcase⟩;obtain⟨A7,c7,rfl⟩:=hk4.form;have F4:=Aa (F.o.step hb0 hs4);have K4:=Aa (K.o.step hs4.2 aI aI);have Hk4:=Aa hk4;have hz4:wr.heap.size<=w4.heap.size:=hs4.2.size;have hKb:=K.o.bs;clear hs4 hk4 c1 s2;unfold Gf;rcases hcase with⟨rfl,hq1⟩|⟨g,y,hfp,rfl,hfg,hBy,hy⟩
    ·have E:=hI.o.stop (N:=N) (t':=t') (by rw[hq1];simp) hl4;rw[<-Hvs.o]at E;clear hq1 hB4;go_wp2_with fail;have F5:=Aa (F4.o.post ((Aq w4.heap.size w4).alloc (Al _) (.cells #[.int .u8 (v.what.toNat:Int),.string ⟨v.text.toArray⟩,(v.tag:Int),.slice A7 v.kids.length c7] 68)));have K5:=Aa (K4.o.after ((Aq w4.heap.size w4).alloc (Al _) (.cells #[.int .u8 (v.what.toNat:Int),.string ⟨v.text.toArray⟩,(v.tag:Int),.slice A7 v.kids.length c7] 68)));obtain⟨W5,hW5⟩:∃W5,W5=w4.alloc (.cells #[.int .u8 (v.what.toNat:Int),.string ⟨v.text.toArray⟩,(v.tag:Int),.slice A7 v.kids.length c7] 68):=⟨_,rfl⟩
     rw[<-hW5]at F5 K5 ⊢;clear hW5;have sb:=F5.o.1.1.2.1.live 2;have s0:=F5.o.1.1.1;have s2:=F5.o.1.1.2.2.2.2;go_quiet (fail)
     go_wp2_with fail;have F6:=Aa (F5.o.post (below_drewN (Aq _ _) nq));have F6:=Aa (F6.o.step hb0 ⟨F6.o.1.1.setBad true,Ai _ b 2 (.bool true)⟩);have K6:=Aa ((K5.o.after (below_drewN (Aq _ _) nq)).step (Ai _ b 2 (.bool true)) aI aI);clear sb s0 s2;have hn7:n=xs.length:=Jl K.o.row;subst hn7;have Hw9:=Aa (fun W (h:G0 W b pb t' true)=>Dx b _ t' [125] true W h aI);refine(Hw9.o _ F6.o.1.1).mono ?_;rintro e W7 ⟨rfl,hs7⟩;have F7:=Aa (F6.o.step hb0 hs7);have K7:=Aa (K6.o.step hs7.2 aI aI);have hfin:=Aa (HQ.o.trans (E.fin Ht1.o Hb1.o Hy.o));have hle9:=Ff 125 t' true;obtain⟨_,_,_,hE9,hB9,hL9⟩:=E;generalize (Bg [125] t' true).getD t'=t4 at *;generalize (Bg [125] t' true).isNone=b4 at *;have HB9:=Aa hB9;have hyl:(xs).length<=1000:=d9;have d0:=K7.o.c0;have d1:=K7.o.c1;have d2:=K7.o.c2;have d3:=K7.o.c3;clear hs7 hB9;go_wp2_with ((with_reducible refine Ac (op:=⟨none,.store 68 _ _,_,_,_,none⟩) rfl 68 _ _ rfl w 0 [.int .u8 82,a6,.int .i64 0,.slice A xs.length c] ?_ ?_ ?_ ?_ ?_ ?_);rfl;rfl;(exact F7.o.2.1);kernel_rfl;(simp[Value.oneCell']);intro w9 HS9)
     have Z:=Qt.fin (v:=.mk 82 [] 0 (Av xs)) (sl:=.slice A xs.length c) F7.o hb0 HS9.o ((K7.o.done hyl).mono fun c hc _=>by omega);exact aG (v:=.agg (Ew (.mk 82 [] 0 (Av xs)) (.slice A xs.length c)).toArray) (Ba results143 _ _ w.heap.size _ _ rfl Z.2.2 underlying68 rfl aN) rfl ⟨.mk 82 [] 0 (Av xs),_,t4,rfl,Z.1,by rw[hfin.o];cases b4<;>exact Z.2.1,by rw[hfin.o];cases b4<;>simp,.mk aL aI aK HB9.o,by omega,by rw[T0];simp[Gl,Bs];omega⟩
    obtain⟨fb,fo,rfl,hfb,hfr⟩:=hfp;have HP4:=@Aa (Kf w0.heap.size w4 (.pointer (some ⟨fb,fo,none⟩)) (some g)) ⟨fb,fo,rfl,hfb,hfr⟩;have hgm:=(Ay hfg).2;have hg2:=htg g hgm;obtain⟨hkd,hrf,hgl⟩:=Hfk.o g hgm;have HGg:=Aa (HG.o g hgm);have HBy:=Aa hBy;have HBf:=Aa hB4;have Hy2:=Aa hy;have hn4':(Aw (Ea (g,y))).length+t'.length<=tt.length+8*N:=hn4;simp only[Ea,Vl.what,Vl.text,Vl.tag,Vl.kids,List.length_singleton]at Hk4 ⊢;clear hfr hBy hB4 hy hn4;go_wp2_with fail;obtain⟨W5,hW5⟩:∃W5,W5=w4.alloc (.cells #[.int .u8 61,a6,(g.tag:Int),.slice A7 1 c7] 68):=⟨_,rfl⟩
    have hb5:Below w4 w4 W5:=fh;have X5:=@Aa (W5.rangeAt w4 0 [.int .u8 61,a6,(g.tag:Int),.slice A7 1 c7]) (by rw[hW5];exact Br w4 [.int .u8 61,a6,(g.tag:Int),.slice A7 1 c7] _);have hz5:w4.heap.size<W5.heap.size:=by rw[hW5];simp
    have F5:=Aa (F4.o.post hb5);have K5:=Aa (K4.o.after hb5);have Hk5:=Aa (Hk4.o.after hb5);have HW5:=Aa (F5.o.1.env HW.o hb);have HP5:=Aa (HP4.o.via (F4.o.1.env HW.o hb) HW5.o);have G5:=@Aa (W5.rangeAt fb fo (Tq g)) (by obtain⟨a1,a2,a3,_,a5⟩:=HP5.o;injection a3 with a3;injection a3 with a3;injection a3 with a3 a4;subst a3 a4;exact a5);have D0:W5.cell? ⟨fb,fo,none⟩=(g.tag:Int):=by simpa using Ab G5.o 0 rfl
    rw[<-hW5];have hfb5:fb<W5.heap.size:=by have:=HW5.o.size;omega
    obtain⟨BX,hBX⟩:∃BX,BX=w4.heap.size:=⟨_,rfl⟩
    rw[<-hBX]at X5 hz5 hb5 hz4 ⊢;clear hW5 F4 K4 Hk4 HP4 hb5 hBX;have sb:=F5.o.1.1.2.1.live 2;have s0:=F5.o.1.1.1;have s2:=F5.o.1.1.2.2.2.2;by_cases hlt:g.tag<=last
    ·have E:=hI.o.stop (N:=N) (t':=t') (fun z hz=>.inl (by rw[Hy2.o z hz];exact hlt)) hl4;rw[<-Hvs.o]at E;have tl:decide ((g.tag:Int)<=(last:Int))=true:=aE aI;go_quiet (fail)
     go_wp2_with fail;have F6:=Aa (F5.o.post (below_drewN (Aq _ _) nq));have F6:=Aa (F6.o.step hb0 ⟨F6.o.1.1.setBad true,Ai _ b 2 (.bool true)⟩);have K6:=Aa ((K5.o.after (below_drewN (Aq _ _) nq)).step (Ai _ b 2 (.bool true)) aI aI);clear sb s0 s2 D0;have hn7:n=xs.length:=Jl K.o.row;subst hn7;have Hw9:=Aa (fun W (h:G0 W b pb t' true)=>Dx b _ t' [125] true W h aI);refine(Hw9.o _ F6.o.1.1).mono ?_;rintro e W7 ⟨rfl,hs7⟩;have F7:=Aa (F6.o.step hb0 hs7);have K7:=Aa (K6.o.step hs7.2 aI aI);have hfin:=Aa (HQ.o.trans (E.fin Ht1.o Hb1.o Hy.o));have hle9:=Ff 125 t' true;obtain⟨_,_,_,hE9,hB9,hL9⟩:=E;generalize (Bg [125] t' true).getD t'=t4 at *;generalize (Bg [125] t' true).isNone=b4 at *;have HB9:=Aa hB9;have hyl:(xs).length<=1000:=d9;have d0:=K7.o.c0;have d1:=K7.o.c1;have d2:=K7.o.c2;have d3:=K7.o.c3;clear hs7 hB9;go_wp2_with ((with_reducible refine Ac (op:=⟨none,.store 68 _ _,_,_,_,none⟩) rfl 68 _ _ rfl w 0 [.int .u8 82,a6,.int .i64 0,.slice A xs.length c] ?_ ?_ ?_ ?_ ?_ ?_);rfl;rfl;(exact F7.o.2.1);kernel_rfl;(simp[Value.oneCell']);intro w9 HS9)
     have Z:=Qt.fin (v:=.mk 82 [] 0 (Av xs)) (sl:=.slice A xs.length c) F7.o hb0 HS9.o ((K7.o.done hyl).mono fun c hc _=>by omega);exact aG (v:=.agg (Ew (.mk 82 [] 0 (Av xs)) (.slice A xs.length c)).toArray) (Ba results143 _ _ w.heap.size _ _ rfl Z.2.2 underlying68 rfl aN) rfl ⟨.mk 82 [] 0 (Av xs),_,t4,rfl,Z.1,by rw[hfin.o];cases b4<;>exact Z.2.1,by rw[hfin.o];cases b4<;>simp,.mk aL aI aK HB9.o,by omega,by rw[T0];simp[Gl,Bs];omega⟩
    have tl:decide ((g.tag:Int)<=(last:Int))=false:=aD aI;obtain⟨ka,kc,kxs,ek,hkk,_,hkr,_,hkk2⟩:=Hk5.o;obtain⟨⟨y',ys⟩,rfl⟩:∃a,kxs=[a]:=by
     cases kxs with
     |nil=>simp[Av]at hkk
     |cons a l=>cases l with
      |nil=>exact⟨a,rfl⟩
      |cons b l=>simp[Av]at hkk
    obtain rfl:y=y':=by simpa [Av]using hkk
    injection ek with e1 e2 e3;subst e1 e3;have hky:=hkk2 (y,ys) aK;obtain⟨A8,c8,e8⟩:=hky.form;simp only at e8 hky;subst e8;obtain⟨kb,ko,rfl,hkb,q0,q1,q2,q3⟩:=Eb.at_ hkr (show 0<1 by decide);simp only[List.getElem_cons_zero,Nat.zero_mul,Nat.add_zero]at q0 q1 q2 q3;have Hky:=Aa hky;have Q0:=Aa q0;have Q1:=Aa q1;have Q2:=Aa q2;have Q3:=Aa q3;have DD:=Aa D0;have SP:=Aa F5.o.1.1.2.2.1;have HPr:=Aa (fun W (h:Below W5 W5 W)=>Pd _ HBy.o (.slice A8 y.kids.length c8) W (Hky.o.after h));have HOf:=Aa (fun W (h:Below W5 W5 W)=>Qh1 pb XS (by rw[HSS.o];exact HSo.o) g fb fo W (Hsc.o.below (HW5.o.trans (h.mono HW5.o.size))) (Ar G5.o hfb5 h) hkd (by rw[HSS.o];exact hrf) hgl);simp only[HSS.o]at HOf;have HV:=Aa (rfl:Aw y=Aw y);generalize hpy:Aw y=py at *;generalize hpo:Kr S g=po at *;have Hpy:=Aa hpy;have Hpo:=Aa hpo;unfold Gf at HPr;clear q0 q1 q2 q3 hkk2 hky hkr hkk e2 D0 s2 hpy hpo HV;refine Xa [36,37,38,39,40,41,42,43,44,45,46,47,48,49,50,51,52,53,54,55,56,57,58,59]
     (fun ix v W=>match ix with|0=>v=.pointer (some ⟨fb,fo,none⟩)|1=>v=.bool false|2=>v=.bool false|3=>v=.pointer (some ⟨fb,fo,none⟩)|4=>v=.pointer (some ⟨fb,fo,none⟩)|5=>v=.pointer (some ⟨fb,fo,none⟩)|6=>v=(g.tag:Int)|7=>v=(last:Int)|8=>v=.bool false|9=>v=.bool false|10=>v=.bool false|11=>v=.pointer (some ⟨BX,3,none⟩)|12=>v=.slice (some ⟨kb,ko,none⟩) 1 c7|13=>v=.pointer (some ⟨kb,ko,none⟩)|14=>v=.agg #[.int .u8 (y.what.toNat:Int),y.text,(y.tag:Int),.slice A8 y.kids.length c8]|15=>v=py|16=>v=b|17=>v=b|18=>v=b|19=>v=pb|20=>v=.pointer (some ⟨fb,fo,none⟩)|21=>v=po|22=>v=.bool (py == po)|23=>v=.bool (py == po)|_=>True)
     (fun L U W=>Below W5 W5 W) ((Aq _ _).drew) ?_ ?_
    ·repeat (first|exact Bb.nil|(refine Bb.cons ?_ ?_;rotate_left))
     all_goals
      rintro L U W hL hpre HR Hdep K hK;have hB:=HR.o;have m0:W.cell? ⟨fb,fo,none⟩=(g.tag:Int):=(hB.cell (p:=⟨fb,fo,none⟩) hfb5).trans DD.o;have m3:W.cell? ⟨BX,3,none⟩=some (.slice (some ⟨kb,ko,none⟩) 1 c7):=(hB.cell (p:=⟨BX,3,none⟩) hz5).trans (X5.o 3 _ rfl);have y0:=(hB.cell (p:=⟨kb,ko,none⟩) hkb).trans Q0.o;have y1:=(hB.cell (p:=⟨kb,ko+1,none⟩) hkb).trans Q1.o;have y2:=(hB.cell (p:=⟨kb,ko+2,none⟩) hkb).trans Q2.o;have y3:=(hB.cell (p:=⟨kb,ko+3,none⟩) hkb).trans Q3.o;have p0:W.cell? (b,0)=pb:=(hB.cell (p:=⟨b,0,none⟩) s0).trans SP.o;first|(simp[Region.binds]at hpre;done)|simp[Region.binds]at hpre|clear hpre
     iterate 15
      ·exact fP
     ·go_simp;refine(HPr.o W hB).mono ?_;rintro e w5 ⟨rfl,hb5⟩;exact jw
     iterate 5
      ·exact fP
     ·go_simp;refine(HOf.o W hB).mono ?_;rintro e w5 ⟨rfl,hb5⟩;exact jw
     iterate 2
      ·exact fP
    rintro L U W hL hφ hR;have e23:U 23=.bool (py == po):=hφ 23 aL;simp only[e23];clear hφ;have hB6:=Aa hR;have F6:=Aa (F5.o.post hR);have K6:=Aa (K5.o.after hR);have X6:=Aa (Ar X5.o hz5 hR);have Hk6:=Aa (Hk5.o.after hR);have D6:W.cell? ⟨fb,fo,none⟩=(g.tag:Int):=(hR.cell (p:=⟨fb,fo,none⟩) hfb5).trans DD.o;have hzW:=hR.size;clear hL hR;by_cases heq:py=po
    ·have te:(py == po)=true:=by simp[heq]
     have E:=hI.o.stop (N:=N) (t':=t') (fun z hz=>.inr (by rw[Hy2.o z hz];exact Hpy.o.trans (heq.trans Hpo.o.symm))) hl4;rw[<-Hvs.o]at E;have sb:=F6.o.1.1.2.1.live 2;have s0:=F6.o.1.1.1;have s2:=F6.o.1.1.2.2.2.2;clear heq;rw[te];go_wp2_with fail;have F7:=Aa (F6.o.step hb0 ⟨F6.o.1.1.setBad true,Ai _ b 2 (.bool true)⟩);have K7:=Aa (K6.o.step (Ai _ b 2 (.bool true)) aI aI);clear sb s0 s2;have hn7:n=xs.length:=Jl K.o.row;subst hn7;have Hw9:=Aa (fun W (h:G0 W b pb t' true)=>Dx b _ t' [125] true W h aI);refine(Hw9.o _ F7.o.1.1).mono ?_;rintro e W7 ⟨rfl,hs7⟩;have F7:=Aa (F7.o.step hb0 hs7);have K7:=Aa (K7.o.step hs7.2 aI aI);have hfin:=Aa (HQ.o.trans (E.fin Ht1.o Hb1.o Hy.o));have hle9:=Ff 125 t' true;obtain⟨_,_,_,hE9,hB9,hL9⟩:=E;generalize (Bg [125] t' true).getD t'=t4 at *;generalize (Bg [125] t' true).isNone=b4 at *;have HB9:=Aa hB9;have hyl:(xs).length<=1000:=d9;have d0:=K7.o.c0;have d1:=K7.o.c1;have d2:=K7.o.c2;have d3:=K7.o.c3;clear hs7 hB9;go_wp2_with ((with_reducible refine Ac (op:=⟨none,.store 68 _ _,_,_,_,none⟩) rfl 68 _ _ rfl w 0 [.int .u8 82,a6,.int .i64 0,.slice A xs.length c] ?_ ?_ ?_ ?_ ?_ ?_);rfl;rfl;(exact F7.o.2.1);kernel_rfl;(simp[Value.oneCell']);intro w9 HS9)
     have Z:=Qt.fin (v:=.mk 82 [] 0 (Av xs)) (sl:=.slice A xs.length c) F7.o hb0 HS9.o ((K7.o.done hyl).mono fun c hc _=>by omega);exact aG (v:=.agg (Ew (.mk 82 [] 0 (Av xs)) (.slice A xs.length c)).toArray) (Ba results143 _ _ w.heap.size _ _ rfl Z.2.2 underlying68 rfl aN) rfl ⟨.mk 82 [] 0 (Av xs),_,t4,rfl,Z.1,by rw[hfin.o];cases b4<;>exact Z.2.1,by rw[hfin.o];cases b4<;>simp,.mk aL aI aK HB9.o,by omega,by rw[T0];simp[Gl,Bs];omega⟩
    have te:(py == po)=false:=by simpa using heq
    have hne:Aw y≠Kr S g:=by rw[Hpy.o,Hpo.o];exact heq
    have Hne:=Aa hne;clear heq hne;rw[te];have Hk6r:=Aa (Hk6.o.mono (Q:=fun d=>w.heap.size+1+1<=d/\(Value.slice A n c).ownBlock≠some d) (fun d hd _=>⟨by omega,fun e=>by have:=(K.o.row.lt d e).2;omega⟩));have kc3:=K6.o.c3;have x60:=X6.o 0 _ rfl;have x61:=X6.o 1 _ rfl;have x62:=X6.o 2 _ rfl;have x63:=X6.o 3 _ rfl;simp only[am]at x60 x61 x62 x63;have hn7:=Jl K6.o.row;subst hn7;go_wp2_with (at_builtin;refine Sn W rfl _ _ 66 rfl (w.heap.size+1+1) 68 (.agg #[.int .u8 0,a6,.int .i64 0,.slice none 0 0]) 4 56 underlying66 Yn rfl aL (Ps (Ea (g,y),.slice (some ⟨kb,ko,none⟩) 1 c7)) rfl (Yl _ rfl) (.slice A xs.length c) xs.length (xs.flatMap Ps) rfl rfl K6.o.row bc aI K6.o.bs ?_;intro v7 w9 hown9 hg9 hwh9;have Hown9:=Aa hown9;have Hg9:=Aa hg9;have Hwh9:=Aa hwh9;obtain⟨A9,n9,c9,rfl⟩:=Jy hown9;clear hown9 hg9 hwh9;have K9:=Aa (K6.o.app (x:=(Ea (g,y),.slice (some ⟨kb,ko,none⟩) 1 c7)) Hk6r.o Hown9.o Hg9.o Hwh9.o);have F9:=Aa (F6.o.app hb0 Hg9.o (fun k e=>by have:=(K6.o.row.lt k e).1;omega));have z3:=K9.o.c3;have zf:=K9.o.bk.live 3;have zl:=K9.o.lt)
    have K10:=Aa K9.o.store;have F10:=Aa (F9.o.app hb0 (Ai w9 (w.heap.size+1) 3 (.slice A9 n9 c9)) (fun k e=>by injection e with e;omega));generalize w9.setCell ⟨w.heap.size+1,3,none⟩ (.slice A9 n9 c9)=w10 at *;clear z3 zf zl kc3 x60 x61 x62 x63 K9 F9;have Htk5:=Aa (fun W (h:G0 W b pb t' (Dh (Am S 1000 N) x.ty.fields tt).isNone)=>J7 b _ t' [44] (Dh (Am S 1000 N) x.ty.fields tt).isNone W h aI);refine(Htk5.o _ F10.o.1.1).mono ?_;rcases hc:Bg [44] t' (Dh (Am S 1000 N) x.ty.fields tt).isNone with _|r
    ·have E:=hI.o.brk (N:=N) Hy2.o aI Hne.o hc HBf.o hn4';clear hc;rintro e W6 ⟨rfl,hs6⟩;simp only[Option.getD_none]at hs6;have F11:=Aa (F10.o.step hb0 hs6);have K11:=Aa (K10.o.step hs6.2 aI aI);rw[<-Hvs.o]at E;have E:RE S (Am S 1000 N) x.ty.fields t1 false (Av (xs++[(Ea (g,y),.slice (some ⟨kb,ko,none⟩) 1 c7)])) t' (Dh (Am S 1000 N) x.ty.fields tt).isNone N:=by simpa [Av]using E
     clear hs6;go_wp2_with fail;generalize xs++[(Ea (g,y),Value.slice (some ⟨kb,ko,none⟩) 1 c7)]=ys at *;have hn7:n9=ys.length:=Jl K11.o.row;subst hn7;have Hw9:=Aa (fun W (h:G0 W b pb t' (Dh (Am S 1000 N) x.ty.fields tt).isNone)=>Dx b _ t' [125] (Dh (Am S 1000 N) x.ty.fields tt).isNone W h aI);refine(Hw9.o _ F11.o.1.1).mono ?_;rintro e W7 ⟨rfl,hs7⟩;have F7:=Aa (F11.o.step hb0 hs7);have K7:=Aa (K11.o.step hs7.2 aI aI);have hfin:=Aa (HQ.o.trans (E.fin Ht1.o Hb1.o Hy.o));have hle9:=Ff 125 t' (Dh (Am S 1000 N) x.ty.fields tt).isNone;obtain⟨_,_,_,hE9,hB9,hL9⟩:=E;generalize (Bg [125] t' (Dh (Am S 1000 N) x.ty.fields tt).isNone).getD t'=t4 at *;generalize (Bg [125] t' (Dh (Am S 1000 N) x.ty.fields tt).isNone).isNone=b4 at *;have HB9:=Aa hB9;have hyl:(ys).length<=1000:=d9;have d0:=K7.o.c0;have d1:=K7.o.c1;have d2:=K7.o.c2;have d3:=K7.o.c3;clear hs7 hB9;go_wp2_with ((with_reducible refine Ac (op:=⟨none,.store 68 _ _,_,_,_,none⟩) rfl 68 _ _ rfl w 0 [.int .u8 82,a6,.int .i64 0,.slice A9 ys.length c9] ?_ ?_ ?_ ?_ ?_ ?_);rfl;rfl;(exact F7.o.2.1);kernel_rfl;(simp[Value.oneCell']);intro w9 HS9)
     have Z:=Qt.fin (v:=.mk 82 [] 0 (Av ys)) (sl:=.slice A9 ys.length c9) F7.o hb0 HS9.o ((K7.o.done hyl).mono fun c hc _=>by omega);exact aG (v:=.agg (Ew (.mk 82 [] 0 (Av ys)) (.slice A9 ys.length c9)).toArray) (Ba results143 _ _ w.heap.size _ _ rfl Z.2.2 underlying68 rfl aN) rfl ⟨.mk 82 [] 0 (Av ys),_,t4,rfl,Z.1,by rw[hfin.o];cases b4<;>exact Z.2.1,by rw[hfin.o];cases b4<;>simp,.mk aL aI aK HB9.o,by omega,by rw[T0];simp[Gl,Bs];omega⟩
    have hcl:=Kj hc;rintro e W6 ⟨rfl,hs6⟩;simp only[Option.getD_some]at hs6;cases hk:Dh (Am S 1000 N) x.ty.fields tt with
    |none=>rw[hk,Cp]at hc;exact absurd hc aK
    |some z=>
     have hz:=Hy2.o z hk;subst hz
     have I6:=Aa (show RI S (Am S 1000 N) x.ty.fields t1 false (ps++[(g,y)]) g.tag r from by
      have h44:As 44 t'=some r:=by rw[hk,Cp]at hc;simpa using hc
      have hl9:=(Sf (P:=fun _ _=>True) (fun f hf s v r h=>⟨Ae,HG.o f hf s v r h⟩) hk).2.2.2;exact hI.o.step hk aI Hne.o (by rw[hl9];simp) h44 HBf.o hg2)
     rw[hk]at hs6 F10;have F11:=Aa (F10.o.step hb0 hs6);have K11:=Aa (K10.o.step hs6.2 aI aI);have V11:=@Aa (Av (xs++[(Ea (g,y),.slice (some ⟨kb,ko,none⟩) 1 c7)])=(ps++[(g,y)]).map Ea) (by have:=Hvs.o;simp[Av]at this ⊢;exact this);have c6:=F11.o.1.1.2.2.2.1;have c1:=F.o.1.1.2.2.2.1;clear hs6 hk hc;go_wp2_with fail;go_roundw
     case rel=>exact⟨ps++[(g,y)],xs++[(Ea (g,y),Value.slice (some ⟨kb,ko,none⟩) 1 c7)],A9,n9,c9,g.tag,r,rfl,by omega,c6,V11.o,F11.o,K11.o,I6.o⟩
     case measure=>simp[c1,c6,ByteArray.size];omega
 have Hy:=Aa hy;have hlt:=Kj hy;clear hy;rintro e W3 ⟨rfl,hs3⟩;simp only[Option.getD_some]at hs3;have F3:=Aa (F2.o.step hb0 hs3);have K3:=Aa (K2.o.step hs3.2 aI aI);clear hs3 F2 K2;have d0:=K3.o.c0;have d1:=K3.o.c1;have d2:=K3.o.c2;have d3:=K3.o.c3;go_wp2_with ((with_reducible refine Ac (op:=⟨none,.store 68 _ _,_,_,_,none⟩) rfl 68 _ _ rfl w 0 [.int .u8 82,a6,.int .i64 0,.slice none 0 0] ?_ ?_ ?_ ?_ ?_ ?_);rfl;rfl;(exact F3.o.2.1);kernel_rfl;(simp[Value.oneCell']);intro w9 HS9)
 have hq2:q=some (.mk 82 [] 0 [],r):=by
  have h1:=Ht1.o;have h2:=Hb1.o;have h3:=Hy.o;rw[HQ.o];rw[Cp]at h1 h2 h3;simp only[an,if_false]at h1 h2;cases h9:As 123 t with
  |none=>rw[h9]at h2;simp at h2;subst h2;simp at h3
  |some z=>
   rw[h9]at h1 h2;simp at h1 h2;subst h1 h2;simp only[an,if_false]at h3;simp only[h3]
 have hb1':b1=false:=by cases b1;rfl;have:=Hy.o;rw[Cp]at this;simp at this
 subst hb1';have Z:=Qt.fin (v:=.mk 82 [] 0 []) (sl:=.slice none 0 0) F3.o hb0 HS9.o (Eb.nil _ _);exact aG (v:=.agg (Ew (.mk 82 [] 0 []) (.slice none 0 0)).toArray) (Ba results143 _ _ w.heap.size _ _ rfl Z.2.2 underlying68 rfl aN) rfl ⟨.mk 82 [] 0 [],_,r,rfl,Z.1,by rw[hq2];exact Z.2.1,by rw[hq2];simp,Ft aL aL,by omega,by simp[Aw,Di,Gl,Ax];omega⟩
theorem Qlk{st:UInt8}{f:Fd}(h:Su st f):f.given.length<=14:=by
 by_cases hs:st=69
 ·rw[(h.2.2.2.1 hs).2];simp
 by_cases hg:f.given=[]
 ·rw[hg];simp
 have:=((h.2.2.2.2 hs).2 hg).2.2;unfold Ce at this;split at this
 ·split at this
  ·rename_i n hd;have:=Bw.1 hd;rw[this.2];have:=C9 5 n dG;omega
  cases this
 split at this
 ·simp only[ax,decide_eq_true_eq]at this;have h4:=this.2;unfold Da at h4;simp only[ax,decide_eq_true_eq,List.length_dropLast,List.length_drop]at h4;omega
 split at this
 ·simp only[decide_eq_true_eq]at this;rw[this];simp
 cases this
theorem Qg2(w0:World)(b N:Nat)(p:Value)(XS:List PT)(hsc:To w0 p XS)(t:List UInt8)(k:Kd)(w:World)(hw:Below w0 w0 w)(hb:w0.heap.size<=b)(h:G0 w b p t false)(hl:t.length<=900)(hs:k.signs=[])(hbs:k.base=[64])(hnm:k.name.length<=100)
  (x:PT) (hxf:Fh XS k.name=some x) (q:Option (Vl × List UInt8)) (HO:∀W,Below w0 w0 W->G0 W b p t false->Calls prog 143 #[b,.pointer (some ⟨x.blk,0,none⟩)] W (Ma W b p t (N+1) q)):
  Calls prog 87 #[b,Fi k] w (Ma w b p t (N+1) q):=by
 have HH:=Aa HO;obtain⟨pb,A,c,mb,rfl,hpb,hc0,hc1,_,hnd,_,_⟩:=hsc
 have HN:=Aa (fun W (h:Below w0 w0 W)=>show (Instr.lookup 133 (.map (some mb)) k.name false).run prog W=.ok (.pointer (some ⟨x.blk,0,none⟩)) W from by
  have:=Fw (D5.below hnd h) k.name aI;rw[hxf]at this;exact this)
 have HM:=Aa (fun W (h:Below w0 w0 W)=>(h.cell (p:=⟨pb,1,none⟩) hpb).trans hc1);have HS:=Aa h;have HW:=Aa hw;have hb0:=h.1;have hbn:¬(b=w.heap.size):=aI;have hbn2:¬(b=w.heap.size+1):=aI;have c2:=h.2.2.2.2;obtain⟨sg,bs,nm⟩:=k;simp only at hs hbs HN;subst hs hbs;unfold Fi;simp only;clear h hw hxf HO hc0 hc1 hnd;go_enter func87,ntmps87;go_wp2_with fail;refine(Ey _ _ _).mono ?_;rintro e w2 ⟨rfl,hb2⟩;have F2:=Aa ((K0.init (k:=⟨[],[64],nm⟩) HS.o).post hb2);clear hb2 c2;have k0:=Ab F2.o.2.1 0 rfl;have k1:=Ab F2.o.2.1 1 rfl;have k2:=Ab F2.o.2.1 2 rfl;simp only[am]at k0 k1 k2;go_wp2_with fail;have hlz:=F2.o.2.2.2;have SP:=Aa F2.o.1.1.2.2.1;have hbz:=F2.o.1.1.1;refine Bm [52,53,54,55,56,57,58,59,60,61,62,63,999] aN aN aN (fun u=>by dsimp only[Bl,Bk,List.set,am,Nat.reduceAdd])
  (fun ix v W=>match ix with|0=>v=b|1=>v=b|2=>v=b|3=>v=b|4=>v=pb|5=>v=pb|6=>v=(pb,1)|7=>v=.map (some mb)|8=>v=(w,2)|9=>v=nm|10=>v=.pointer (some ⟨x.blk,0,none⟩)|11=>∃x s,v=Gf x s|_=>True)
  (fun L U W=>(L 11=false->Below w2 w2 W)/\(L 11=true->L 12=false->∃v sl t',U 11=Gf v sl/\Eb (fun c=>w.heap.size+2<=c) W sl v.kids/\K0 w b pb ⟨[],[64],nm⟩ t' q.isNone W/\(∀x,q=some x->v=x.1/\t'=x.2)/\Bd v/\t'.length<=t.length/\(Aw v).length+t'.length<=t.length+8*(N+1)) /\
  (L 12=true->∃v sl,Ma w b pb t (N+1) q (.returned (.agg (Ew v sl).toArray)) W/\W.rangeAt (w.heap.size+1) 0 (Ew v sl))) (fun _ _=>True) (fun _ _ _ _ _ h=>h) (⟨fun _=>(Aq _ _).drew,fun h=>Bool.noConfusion h,fun h=>Bool.noConfusion h⟩) ?_ ?_
 ·repeat (first|exact Bb.nil|(refine Bb.cons ?_ ?_;rotate_left))
  all_goals
   rintro L U W hL hpre hR hun hdep K hK;have HR:=Aa hR;obtain⟨R1,R2,R3⟩:=HR.o;have Hdep:=Aa hdep;clear hun hdep hR;first|(simp[Region.binds]at hpre;done)|simp[Region.binds]at hpre|clear hpre
  iterate 4
   ·exact fP
  ·have h5:L 5=false:=Ct Hdep.o 5 4 rfl hL;have h6:L 6=false:=Ct Hdep.o 6 5 rfl h5;have h7:L 7=false:=Ct Hdep.o 7 6 rfl h6;have h10:L 10=false:=Ct Hdep.o 10 7 rfl h7;have h11:L 11=false:=Ct Hdep.o 11 10 rfl h10;have hB:=R1 h11;have hW2:=(F2.o.post hB).1.env HW.o hb;have p0:W.cell? (b,0)=pb:=(hB.cell (p:=⟨b,0,none⟩) hbz).trans SP.o;exact jd
  iterate 2
   ·exact fP
  ·have h10:L 10=false:=Ct Hdep.o 10 7 rfl hL;have h11:L 11=false:=Ct Hdep.o 11 10 rfl h10;have hB:=R1 h11;have hW2:=(F2.o.post hB).1.env HW.o hb;have m1:=HM.o W hW2;exact jd
  ·exact fP
  ·have h10:L 10=false:=Ct Hdep.o 10 9 rfl hL;have h11:L 11=false:=Ct Hdep.o 11 10 rfl h10;have hB:=R1 h11;have hW2:=(F2.o.post hB).1.env HW.o hb;have n2:W.cell? (w,2)=nm:=(hB.cell (p:=⟨w.heap.size,2,none⟩) (show w.heap.size<_ by omega)).trans k2;exact jd
  ·have h11:L 11=false:=Ct Hdep.o 11 10 rfl hL;have hB:=R1 h11;have hW2:=(F2.o.post hB).1.env HW.o hb;have hlk:=HN.o W hW2;exact jd
  ·have h12:L 12=false:=Ct Hdep.o 12 11 rfl hL;have hB:=R1 hL;have F3:=F2.o.post hB;go_simp;refine(HH.o W (F3.1.env HW.o hb) F3.1.1).mono ?_;rintro e w5 ⟨v,sl,t',rfl,hk5,hs5,hx5,hB5,hl5,hn5⟩;exact hK (Gf v sl) _ _ ⟨v,sl,rfl⟩ Ae ⟨fun h=>by simp at h,fun _ _=>⟨v,sl,t',rfl,hk5.mono fun c hc _=>(by have:=hB.size;omega),F3.step hb0 hs5,hx5,hB5,hl5,hn5⟩,fun h=>absurd (h12.symm.trans aU) aL⟩ aJ
  ·have l11:L 11=true:=hpre.1.1;obtain⟨v,sl,t',u11,hk5,F5,hx5,hB5,hl5,hn5⟩:=R2 l11 hL;obtain⟨A7,c7,rfl⟩:=hk5.form;have Z:=K0.fin (w9:=W.setCells (w.heap.size+1) 0 (Ew v (.slice A7 v.kids.length c7))) (t:=t) (N:=N+1) (v:=v) (sl:=.slice A7 v.kids.length c7) (r:=q) F5 hb0 rfl hk5 rfl hx5 hB5 hl5 hn5;rw[if_pos dm];refine wp_store_mid 68 _ _ rfl (w.heap.size+1) 0 (Ew v (.slice A7 v.kids.length c7)).toArray rfl u11 F5.2.2.1 aN (by simp[Ew,Value.oneCell']) ?_;exact hK undef _ _ Ae Ae ⟨fun h=>absurd (l11.symm.trans aU) aL,fun _ h=>by simp at h,fun _=>⟨v,_,Z.1,Z.2⟩⟩ rfl
 rintro L U W hL hφ hR;clear hφ;obtain⟨_,_,h3⟩:=hR;obtain⟨v,sl,Z1,Z2⟩:=h3 (hL 12 aL);clear hL h3;go_wp2_with fail;exact aG (v:=.agg (Ew v sl).toArray) (Ba results87 _ _ (w.heap.size+1) _ _ rfl Z2 underlying68 rfl aN) rfl Z1
theorem Qhb(w0:World)(b N:Nat)(p:Value)(S:List Ty)(t:List UInt8)(k:Kd)(w:World)(hw:Below w0 w0 w)(hb:w0.heap.size<=b)(h:G0 w b p t false)(hl:t.length<=900)(hN:t.length<=N)(hN2:N<=2000)(sg:List UInt8)(hs:k.signs=91::sg)(hsl:sg.length<=100)
  (H:IvC w0 b p S N k.part) (HG:∀s v r,Am S 1000 N k.part s=some (v,r)->s=Aw v++r) (q:Option (Vl × List UInt8)) (hq:q=Xx (Am S 1000 N k.part) 1000 t):
  Calls prog 87 #[b,Fi k] w (Ma w b p t (N+1) q):=by
 have HL:=Aa (fun W (h1:Below w0 w0 W) (h2:G0 W b p t false)=>Qjx w0 b N p S t k.part W h1 hb h2 hl hN hN2 H HG q hq);have HP:=Aa (fun W=>Qw k W 91 sg hs aI);have HS:=Aa h;have HW:=Aa hw;have hb0:=h.1;have hbn:¬(b=w.heap.size):=aI;have hbn2:¬(b=w.heap.size+1):=aI;have c2:=h.2.2.2.2;obtain⟨sg',bs,nm⟩:=k;simp only at hs;subst hs;generalize hkp:(⟨91::sg,bs,nm⟩:Kd).part=kp at *;unfold Fi at HP ⊢ HL;simp only at HP ⊢;clear h hq hw H HG hkp;go_enter func87,ntmps87;go_wp2_with fail;refine(Je 91 sg aI _ _ _).mono ?_;rintro e w2 ⟨rfl,hb2⟩;have F2:=Aa ((K0.init (k:=⟨91::sg,bs,nm⟩) HS.o).post hb2);clear hb2 c2;have k0:=Ab F2.o.2.1 0 rfl;have k1:=Ab F2.o.2.1 1 rfl;have k2:=Ab F2.o.2.1 2 rfl;simp only[am]at k0 k1 k2;go_wp2_with fail;refine(HP.o _).mono ?_;rintro e w3 ⟨rfl,hb3⟩;have F3:=Aa (F2.o.post hb3);clear hb3 k0 k1 k2;go_wp2_with fail;refine(HL.o _ (F3.o.1.env HW.o hb) F3.o.1.1).mono ?_;rintro e w4 ⟨v,sl,t',rfl,hk4,hs4,hx4,hB4,hl4,hn4⟩;obtain⟨A7,c7,rfl⟩:=hk4.form;have F4:=Aa (F3.o.step hb0 hs4);have hz3:=F3.o.2.2.2;have Hk4:=Aa hk4;have Hx4:=Aa hx4;have HB4:=Aa hB4;clear hs4 hk4 hx4 hB4;unfold Gf;go_wp2_with ((with_reducible refine Ac (op:=⟨none,.store 68 _ _,_,_,_,none⟩) rfl 68 _ _ rfl (w.heap.size+1) 0 (Ew v (.slice A7 v.kids.length c7)) ?_ ?_ ?_ ?_ ?_ ?_);rfl;rfl;(exact F4.o.2.2.1);kernel_rfl;(simp[Ew,Value.oneCell']);intro w9 HS9)
 have Z:=K0.fin (t:=t) (N:=N+1) (v:=v) (sl:=.slice A7 v.kids.length c7) (r:=q) F4.o hb0 HS9.o (Hk4.o.mono fun c hc _=>by omega) rfl Hx4.o HB4.o hl4 hn4;exact aG (v:=.agg (Ew v (.slice A7 v.kids.length c7)).toArray) (Ba results87 _ _ (w.heap.size+1) _ _ rfl Z.2 underlying68 rfl aN) rfl Z.1
theorem Qfy(w0:World)(b:Nat)(p:Value)(XS:List PT)(hsc:To w0 p XS)(hS:Kt (Ah XS))(hb:w0.heap.size<=b):∀(N:Nat),N<=2000->∀(k:Kd),Cw k->Bu (Ah XS) k->IvC w0 b p (Ah XS) N k:=by
 intro N;induction N with
 |zero=>
  intro _ k hk hr t bad w hw h hl hN;cases bad with
  |true=>exact Qad b 0 p t k w h
  |false=>exact absurd (hN rfl) (Nat.not_lt_zero _)
 |succ N ih=>
  intro hN2 k hk hr t bad w hw h hl hN;cases bad with
  |true=>exact Qad b (N+1) p t k w h
  |false=>
   have hN:=Nat.le_of_lt_succ (hN rfl);rw[if_neg aL];have hTy:∀t∈Ah XS,Ek t:=hS.1.1;unfold Am;cases hs:k.signs with
   |cons c sg=>
    simp only;have hsl:sg.length<=100:=by have:=hk.2.2;unfold Be at this;rw[hs]at this;simp at this;omega
    have hp:=(Jk hk).1;have hrp:Bu (Ah XS) k.part:=hr;rcases Kl hk hs with rfl|rfl
    ·rw[if_pos rfl];exact Qhb w0 b N p (Ah XS) t k w hw hb h hl hN aI sg hs hsl (ih aI k.part hp hrp) (fun s v r h=>(Gq hTy 1000 N k.part s v r hp h).2) _ rfl
    rw[if_neg aL];exact Qgn w0 b N p (Ah XS) t k w hw hb h hl hN aI sg hs hsl (ih aI k.part hp hrp) _ rfl
   |nil=>
    simp only;by_cases h1:k.base=[110]
    ·rw[if_pos h1];exact Qkk b N p t k w h hl hs h1 _ rfl
    rw[if_neg h1];by_cases h2:k.base=[116]
    ·rw[if_pos h2];exact Qj4 b N p t k w h hl hs h2 _ rfl
    rw[if_neg h2];by_cases h3:k.base=[102]
    ·rw[if_pos h3];exact Ql8 b N p t k w h hl hs h3 _ rfl
    rw[if_neg h3];have h64:k.base=[64]:=by
     rcases hk.2.1 with h|⟨h|h|h,_⟩
     ·exact h.1
     ·exact absurd h h1
     ·exact absurd h h2
     exact absurd h h3
    have hnm:k.name.length<=100:=by
     rcases hk.2.1 with h|⟨_,h⟩
     ·have:=(Fc.1 h.2).2.1;omega
     rw[h];simp
    have hr2:=hr h64;rw[Jr]at hr2 ⊢;cases hx:Fh XS k.name with
    |none=>rw[hx]at hr2;cases hr2
    |some x=>
     simp only[Option.map_some];have hxm:=(Gy hx).1;have hxt:=(Gy hx).2.2;have hxi:Tc w0 x:=by obtain⟨_,_,_,_,_,_,_,_,_,_,h6,_⟩:=hsc;exact h6 x hxm
     have hto:=hTy x.ty (aq hxm);refine Qg2 w0 b N p XS hsc t k w hw hb h hl hs h64 hnm x hx _ fun W hW hSc=>?_;have htg:∀f∈x.ty.fields,f.tag<=200:=fun f hf=>(hto.2.2.1.1 f hf).2.1;by_cases h9:x.ty.sort=69
     ·exact Qls w0 b N p (Ah XS) x hxi h9 t W hW hb hSc hl _ rfl
     have hfk:∀f∈x.ty.fields,Cw f.kind/\Bu (Ah XS) f.kind/\f.given.length<=1000:=fun f hf=>
      ⟨(Na hTy hxt h9 hf).1,hS.2.1 x.ty (Bj hxt).1 h9 f hf,by have:=Qlk (hto.2.2.1.1 f hf);omega⟩
     have HF:∀f∈x.ty.fields,IvC w0 b p (Ah XS) N f.kind:=fun f hf=>ih aI f.kind (hfk f hf).1 (hfk f hf).2.1;by_cases h5:x.ty.sort=85
     ·exact Qlv w0 b N p (Ah XS) x hxi h5 t W hW hb hSc hl hN aI htg HF _ rfl
     have h82:x.ty.sort=82:=by
      rcases hto.1 with h|h|h
      ·exact h
      ·exact absurd h h5
      exact absurd h h9
     exact Qla w0 b N p XS hsc hS x hxi h82 t W hW hb hSc hl hN aI htg hfk HF (fun f hf s v r h=>(Gq hTy 1000 N f.kind s v r (hfk f hf).1 h).2) _ rfl
def Si(o:Option Vl)(w:World)(e:Ending)(w':World):Prop:=
 (∃v sl,e=.returned (.tuple #[Gf v sl,.bool o.isSome])/\Eb (fun b=>w.heap.size<=b) w' sl v.kids/\∀x,o=some x->v=x)/\Below w w w'
theorem Si.no{o:Option Vl}{w w':World}{e:Ending}(ho:o=none)(he:e=.returned (.tuple #[Gf Eu (.slice none 0 0),.bool false]))(hb:Below w w w'):Si o w e w':=by
 subst ho;exact⟨⟨Eu,_,he,Eb.nil _ _,by simp⟩,hb⟩
theorem Qh9(p:Value)(XS:List PT)(hS:Kt (Ah XS))(k:Kd)(hk:Cw k)(hr:Bu (Ah XS) k)(s:List UInt8)(w:World)(hsc:To w p XS)(hs:s.length<=4000000):
  Calls prog 107 #[p,Fi k,s] w (Si (Jv (Ah XS) k s) w):=by
 have hTy:∀t∈Ah XS,Ek t:=hS.1.1;by_cases hl:400<s.length
 ·have HQ:=Aa (show Jv (Ah XS) k s=none by unfold Jv;rw[if_pos hl]);have t1:decide ((400:Int)<(s.length:Int))=true:=aE aI;have TH:=Cu (w.alloc (.cells #[k.signs,k.base,k.name] 60)) [.int .u8 0,a6,.int .i64 0,.slice none 0 0] 68;simp at TH;have BL:Below w w ((w.alloc (.cells #[k.signs,k.base,k.name] 60)).alloc (.cells #[.int .u8 0,a6,.int .i64 0,.slice none 0 0] 68)):=((Aq _ _).alloc (Al _) _).alloc aK _;unfold Fi;go_enter func107,ntmps107;go_wp2_with ((with_reducible refine Ac (op:=⟨none,.store 68 _ _,_,_,_,none⟩) rfl 68 _ _ rfl (w.heap.size+1) 0 [.int .u8 0,a6,.int .i64 0,.slice none 0 0] ?_ ?_ ?_ ?_ ?_ ?_);rfl;rfl;(exact TH);kernel_rfl;(simp[Ew,Value.oneCell']);intro w9 HS9)
  have HZ:=(by rw[HS9.o];exact aa _ _ _ _ (TH):w9.rangeAt (w.heap.size+1) 0 (Ew Eu (.slice none 0 0)))
  refine aG (v:=.tuple #[.agg (Ew Eu (.slice none 0 0)).toArray,.bool false]) (Au results107 _ _ (w.heap.size+1) _ _ _ rfl rfl HZ underlying68 rfl aN) rfl ?_;exact Si.no HQ.o rfl (by rw[HS9.o];exact Ak _ aI _ _ _ BL)
 have HQ0:=Aa (Qik hTy hk (by omega:s.length<=400) 1000 500 aI aI);have t1:decide ((400:Int)<(s.length:Int))=false:=aD aI;have HG:=Aa (fun v r=>Gq hTy 1000 500 k s v r hk);have HV:=Aa (fun w0 b (h0:To w0 p XS) hb W (hW:Below w0 w0 W) (h2:G0 W b p s false)=>Qfy w0 b p XS h0 hS hb 500 aI k hk hr s false W hW h2 aI (fun _=>by omega));simp only[an,if_false]at HV;generalize Jv (Ah XS) k s=q at *;generalize hrd:Am (Ah XS) 1000 500 k s=rd at *;have Hsc:=Aa hsc;obtain⟨pb,_,_,_,rfl,_⟩:=hsc;unfold Fi at HV ⊢;clear hrd hS hk hr hTy;go_enter func107,ntmps107;go_wp2_with fail;obtain⟨W1,hW1⟩:∃W1,W1=(w.alloc (.cells #[k.signs,k.base,k.name] 60)).alloc (.cells #[.int .u8 0,a6,.int .i64 0,.slice none 0 0] 68):=⟨_,rfl⟩
 rw[<-hW1];have hz1:W1.heap.size=w.heap.size+2:=cN;have B1:=Aa (show Below w w W1 by rw[hW1];exact((Aq _ _).alloc (Al _) _).alloc aK _);have T1:=Aa (show W1.there (w.heap.size+1) 0 4 by rw[hW1];have:=Cu (w.alloc (.cells #[k.signs,k.base,k.name] 60)) [.int .u8 0,a6,.int .i64 0,.slice none 0 0] 68;simpa using this);clear hW1;obtain⟨W2,hW2⟩:∃W2,W2=W1.alloc (.cells #[pb,s,.bool false] 65):=⟨_,rfl⟩
 have hb2:Below W1 W1 W2:=by rw[hW2];exact(Aq _ _).alloc (Al _) _
 have S2:=@Aa (G0 W2 W1.heap.size pb s false) (by rw[hW2];exact⟨by simp,Qk.new _ _ _,by simp,by simp,by simp⟩);rw[hz1]at S2;rw[<-hW2];refine(HV.o W1 (w.heap.size+1+1) (Hsc.o.below B1.o) aI W2 hb2 S2.o).mono ?_;rintro e w3 ⟨v,sl,t',rfl,hk3,hs3,hx3,hB3,hl3,hn3⟩;obtain⟨A7,c7,rfl⟩:=hk3.form;have hz2:W1.heap.size<W2.heap.size:=by rw[hW2];simp
 have T3:=Aa (Dn (An T1.o aI hb2) hs3.2 aI aK);have B3:=@Aa (Below w w w3) ((B1.o.trans (hb2.mono aI)).grown hs3.2 aI (fun k e=>by injection e with e;omega));have S3:=Aa hs3.1;have hz3:W2.heap.size<=w3.heap.size:=hs3.2.size;have Hk3:=Aa hk3;have Hx3:=Aa hx3;have T4:=Aa (fun o=>An T3.o aI ((Aq w3.heap.size w3).alloc (Al _) o));have B4:=Aa (fun o=>B3.o.alloc B3.o.size o);clear hs3 hk3 hx3 HV hW2 hb2 T1 B1 hB3;unfold Gf;have c1:=S3.o.2.2.2.1;have c2:=S3.o.2.2.2.2;have hbw:=S3.o.1;have hbn:¬(w.heap.size+1+1=w3.heap.size):=aI;cases rd with
 |none=>
  have HQ:=@Aa (q=none) HQ0.o;simp only[Option.isNone_none]at c2;go_wp2_with ((with_reducible refine Ac (op:=⟨none,.store 68 _ _,_,_,_,none⟩) rfl 68 _ _ rfl (w.heap.size+1) 0 [.int .u8 0,a6,.int .i64 0,.slice none 0 0] ?_ ?_ ?_ ?_ ?_ ?_);rfl;rfl;(exact T4.o _);kernel_rfl;(simp[Ew,Value.oneCell']);intro w9 HS9)
  have HZ:=(by rw[HS9.o];exact aa _ _ _ _ (T4.o _):w9.rangeAt (w.heap.size+1) 0 (Ew Eu (.slice none 0 0)))
  refine aG (v:=.tuple #[.agg (Ew Eu (.slice none 0 0)).toArray,.bool false]) (Au results107 _ _ (w.heap.size+1) _ _ _ rfl rfl HZ underlying68 rfl aN) rfl ?_;exact Si.no HQ.o rfl eL
 |some y=>
  obtain⟨v0,r⟩:=y;obtain⟨rfl,rfl⟩:=Hx3.o _ rfl;have hv:=(HG.o v t' rfl).1;simp only[Option.isNone_some]at c2;have hd5:J4 v<=500:=(E7 _ _ _ _ hv 500).1 hv;have HD:=Aa (fun W (h:Below w3 w3 W)=>Qbe _ hv.dw (.slice A7 v.kids.length c7) W (Hk3.o.after h) aI);unfold Gf at HD;cases ht:t' with
  |cons c u=>
   rw[ht]at HQ0 c1;have HQ:=@Aa (q=none) HQ0.o;clear ht;go_wp2_with ((with_reducible refine Ac (op:=⟨none,.store 68 _ _,_,_,_,none⟩) rfl 68 _ _ rfl (w.heap.size+1) 0 [.int .u8 0,a6,.int .i64 0,.slice none 0 0] ?_ ?_ ?_ ?_ ?_ ?_);rfl;rfl;(exact T4.o _);kernel_rfl;(simp[Ew,Value.oneCell']);intro w9 HS9)
   have HZ:=(by rw[HS9.o];exact aa _ _ _ _ (T4.o _):w9.rangeAt (w.heap.size+1) 0 (Ew Eu (.slice none 0 0)))
   refine aG (v:=.tuple #[.agg (Ew Eu (.slice none 0 0)).toArray,.bool false]) (Au results107 _ _ (w.heap.size+1) _ _ _ rfl rfl HZ underlying68 rfl aN) rfl ?_;exact Si.no HQ.o rfl eL
  |nil=>
   rw[ht]at HQ0 c1;have HQ1:=@Aa (q=if J4 v<=12 then some v else none) HQ0.o;clear ht hv;go_wp2_with fail;refine(HD.o _ ((Aq _ _).alloc (Al _) _)).mono ?_;rintro e w5 ⟨rfl,hb5⟩;have hb5':Below w3 w3 w5:=((Aq w3.heap.size w3).alloc (Al _) _).trans (hb5.mono aK);have T5:=Aa (An T3.o aI hb5');have B5:=Aa (B3.o.trans (hb5'.mono B3.o.size));have X5:=Aa (Ar (Br w3 (Ew v (.slice A7 v.kids.length c7)) 68) aK hb5);have hz5:=hb5'.size;have d0:=Ab X5.o 0 rfl;have d1:=Ab X5.o 1 rfl;have d2:=Ab X5.o 2 rfl;have d3:=Ab X5.o 3 rfl;simp only[am]at d0 d1 d2 d3;have Hk5:=Aa (Hk3.o.after hb5');clear hb5 hb5';by_cases h12:J4 v<=12
   ·have t2:decide ((12:Int)<(J4 v:Int))=false:=aD aI;have HQ:=Aa (show q=some v by rw[HQ1.o,if_pos h12]);clear HQ1 HQ0;generalize J4 v=n at *;go_wp2_with ((with_reducible refine Ac (op:=⟨none,.store 68 _ _,_,_,_,none⟩) rfl 68 _ _ rfl (w.heap.size+1) 0 (Ew v (.slice A7 v.kids.length c7)) ?_ ?_ ?_ ?_ ?_ ?_);rfl;rfl;(exact T5.o);kernel_rfl;(simp[Ew,Value.oneCell']);intro w9 HS9)
    have HZ:w9.rangeAt (w.heap.size+1) 0 (Ew v (.slice A7 v.kids.length c7)):=by rw[HS9.o];exact aa _ _ _ _ T5.o
    refine aG (v:=.tuple #[.agg (Ew v (.slice A7 v.kids.length c7)).toArray,.bool true]) (Au results107 _ _ (w.heap.size+1) _ _ _ rfl rfl HZ underlying68 rfl aN) rfl ?_;rw[HQ.o,HS9.o];exact⟨⟨v,_,rfl,(Hk5.o.set (B:=w.heap.size+1) aI _).mono (fun c hc _=>by omega),by simp⟩,Ak _ aI _ _ _ B5.o⟩
   have t2:decide ((12:Int)<(J4 v:Int))=true:=aE aI;have HQ:=Aa (show q=none by rw[HQ1.o,if_neg h12]);clear HQ1 HQ0;generalize J4 v=n at *;go_wp2_with ((with_reducible refine Ac (op:=⟨none,.store 68 _ _,_,_,_,none⟩) rfl 68 _ _ rfl (w.heap.size+1) 0 [.int .u8 0,a6,.int .i64 0,.slice none 0 0] ?_ ?_ ?_ ?_ ?_ ?_);rfl;rfl;(exact T5.o);kernel_rfl;(simp[Ew,Value.oneCell']);intro w9 HS9)
   have HZ:=(by rw[HS9.o];exact aa _ _ _ _ (T5.o):w9.rangeAt (w.heap.size+1) 0 (Ew Eu (.slice none 0 0)))
   refine aG (v:=.tuple #[.agg (Ew Eu (.slice none 0 0)).toArray,.bool false]) (Au results107 _ _ (w.heap.size+1) _ _ _ rfl rfl HZ underlying68 rfl aN) rfl ?_;exact Si.no HQ.o rfl (by rw[HS9.o];exact Ak _ aI _ _ _ B5.o)
section
variable {P:Program}
theorem Ro{fn:Func}{r p p2 q:Tmp}{ty ty2:TypeId}(h:fn.results=#[.tmp r,.cell p ty,.cell p2 ty2,.tmp q])(tmps:Array Value)(w:World)(b b2:Nat)(cs cs2:List Value)(d d2:TypeDesc)(y x:Value)
  (hr:tmps.getD r undef=y) (hp:tmps.getD p undef=b) (hp2:tmps.getD p2 undef=b2) (hq:tmps.getD q undef=x) (hc:w.rangeAt b 0 cs) (hc2:w.rangeAt b2 0 cs2)
  (hu:P.underlying ty=some d) (hd:d.isRow=true) (hi:(P.info? ty).map (·.size)=some cs.length) (hu2:P.underlying ty2=some d2) (hd2:d2.isRow=true) (hi2:(P.info? ty2).map (·.size)=some cs2.length):
  (results fn tmps).run P w=.ok (.tuple #[y,.agg cs.toArray,.agg cs2.toArray,x]) w:=by
 have hp':tmps[p]?.getD undef=b:=eN;have hp2':tmps[p2]?.getD undef=b2:=by simpa using hp2
 have hq':tmps[q]?.getD undef=x:=by simpa using hq
 have hr':tmps[r]?.getD undef=y:=dW;simp[results,h,hp',hp2',hq',hr',asAddr,run_loadVar_mid w b 0 ty cs d hc hu hd hi,run_loadVar_mid w b2 0 ty2 cs2 d2 hc2 hu2 hd2 hi2]
end
theorem Rx.low{lo lo':Nat}{w:World}{p:Value}{xs:List PT}(h:Rx lo w p xs)(hl:lo'<=lo):Rx lo' w p xs:=by
 obtain⟨b,A,c,mb,e,h0,h1,h2,h3,h4,h5,h6,l1,l2,l3,l4⟩:=h;exact⟨b,A,c,mb,e,h0,h1,h2,h3,h4,h5,h6,by omega,by omega,fun g o hn e=>by have:=l3 g o hn e;omega,fun x hx=>⟨by have:=(l4 x hx).1;omega,fun k hn hk=>by have:=(l4 x hx).2 k hn hk;omega⟩⟩
def Qcj(o:Option (List Ty × Kd))(x:List UInt8)(w:World)(e:Ending)(w':World):Prop:=
 (∃p k1 k2 k3 v sl,e=.returned (.tuple #[.pointer p,.agg #[.string k1,.string k2,.string k3],Gf v sl,.bool (Tf o x).isSome])/\Eb (fun c=>w.heap.size<=c) w' sl v.kids /\
  ∀y,Tf o x=some y->v=y/\∃S k xs,o=some (S,k)/\Ah xs=S/\k1=⟨k.signs.toArray⟩/\k2=⟨k.base.toArray⟩/\k3=⟨k.name.toArray⟩/\Rx w.heap.size w' (.pointer p) xs)/\Below w w w'
theorem Qcj.no{o:Option (List Ty × Kd)}{x:List UInt8}{w w':World}{e:Ending}(ho:Tf o x=none){p:Option Addr}{k1 k2 k3:ByteArray}{v:Vl}{sl:Value}(he:e=.returned (.tuple #[.pointer p,.agg #[.string k1,.string k2,.string k3],Gf v sl,.bool false]))(hs:Eb (fun c=>w.heap.size<=c) w' sl v.kids)(hb:Below w w w'):Qcj o x w e w':=by
 refine⟨⟨p,k1,k2,k3,v,sl,by rw[ho];exact he,hs,fun y hy=>?_⟩,hb⟩;rw[ho]at hy;cases hy
theorem Qgd(s d x:List UInt8)(w:World)(hs:s.length<=4000000)(hd:d.length<=4000000)(hx:x.length<=4000000):
  Calls prog 49 #[s,d,x] w (Qcj (Bq s d) x w):=by
 have Hbo:=Aa (fun W=>Vm s d W hs hd);have HGo:=Aa (fun S k (h:Bq s d=some (S,k))=>Ec h);generalize Bq s d=o at *;go_enter func49,ntmps49;go_wp2_with fail;obtain⟨W1,hW1⟩:∃W1,W1=(w.alloc (.cells #[a6,a6,a6] 60)).alloc (.cells #[.int .u8 0,a6,.int .i64 0,.slice none 0 0] 68):=⟨_,rfl⟩
 rw[<-hW1];have hz1:W1.heap.size=w.heap.size+2:=cN;have B1:=Aa (show Below w w W1 by rw[hW1];exact((Aq _ _).alloc (Al _) _).alloc aK _);have TK1:=Aa (show W1.there w 0 3 by rw[hW1];exact au (Cu w [a6,a6,a6] 60) _);have TV1:=Aa (show W1.there (w.heap.size+1) 0 4 by rw[hW1];have:=Cu (w.alloc (.cells #[a6,a6,a6] 60)) [.int .u8 0,a6,.int .i64 0,.slice none 0 0] 68;simpa using this);clear hW1;refine(Hbo.o W1).mono ?_;rintro e W2 ⟨hcase,hb2⟩;have hz2:=hb2.size;have TK2:=Aa (An TK1.o aI hb2);have TV2:=Aa (An TV1.o aI hb2);have B2:=Aa (B1.o.trans (hb2.mono aI));clear hb2;cases o with
 |none=>
  obtain⟨p,a,b,c,rfl⟩:=hcase;obtain⟨W3,hW3⟩:∃W3,W3=W2.alloc (.cells #[.string a,.string b,.string c] 60):=⟨_,rfl⟩
  have hb3:Below W2 W2 W3:=fg;have TK3:=Aa (An TK2.o aI hb3);have TV3:=Aa (An TV2.o aI hb3);have B3:=Aa (B2.o.trans (hb3.mono B2.o.size));have HW3:=Aa hW3;clear hb3 hW3;go_wp2_with (first|((with_reducible refine Ac (op:=⟨none,.store 60 _ _,_,_,_,none⟩) rfl 60 _ _ rfl w 0 [a6,a6,a6] ?_ ?_ ?_ ?_ ?_ ?_);rfl;rfl;(rw[<-HW3.o];exact TK3.o);kernel_rfl;(simp[Value.oneCell']);intro w8 HS8)|((with_reducible refine Ac (op:=⟨none,.store 68 _ _,_,_,_,none⟩) rfl 68 _ _ rfl (w.heap.size+1) 0 [.int .u8 0,a6,.int .i64 0,.slice none 0 0] ?_ ?_ ?_ ?_ ?_ ?_);rfl;rfl;(rw[HS8.o,<-HW3.o];exact ai TV3.o _ _ _);kernel_rfl;(simp[Value.oneCell']);intro w9 HS9))
  rw[<-HW3.o]at HS8;have TV8:=Aa (show w8.there (w.heap.size+1) 0 4 by rw[HS8.o];exact ai TV3.o _ _ _);have RK8:=Aa (show w8.rangeAt w 0 [a6,a6,a6]by rw[HS8.o];exact aa _ _ _ _ TK3.o);have B8:=Aa (show Below w w w8 by rw[HS8.o];exact Ak _ (Al _) _ _ _ B3.o);have RK9:=(by rw[HS9.o];exact ak RK8.o _ _ _ (.inl aI):w9.rangeAt w 0 [a6,a6,a6])
  have RV9:=(by rw[HS9.o];exact aa _ _ _ _ TV8.o:w9.rangeAt (w.heap.size+1) 0 [.int .u8 0,a6,.int .i64 0,.slice none 0 0])
  refine aG (v:=.tuple #[.pointer none,.agg ([a6,a6,a6]:List Value).toArray,.agg ([.int .u8 0,a6,.int .i64 0,.slice none 0 0]:List Value).toArray,.bool false]) ?_ rfl ?_
  ·exact Ro results49 _ _ w.heap.size (w.heap.size+1) _ _ _ _ _ _ rfl rfl rfl rfl RK9 RV9 underlying60 rfl aN underlying68 rfl aN
  exact Qcj.no (v:=Eu) (sl:=.slice none 0 0) rfl rfl (Eb.nil _ _) (by rw[HS9.o];exact Ak _ aI _ _ _ B8.o)
 |some y=>
  obtain⟨S,k⟩:=y;obtain⟨p,xs,rfl,rfl,hsl⟩:=hcase;obtain⟨g1,_,_,g4,_,g6⟩:=HGo.o _ k rfl;have Hsl:=@Aa (Rx (w.heap.size+2) W2 p xs) (by rw[<-hz1];exact hsl);obtain⟨pb,_,_,_,rfl,_⟩:=hsl;have Hrd:=Aa (fun W (h:To W pb xs)=>Qh9 pb xs g1 k g4 g6 x W h hx);have HV:=@Aa (Tf (some (Ah xs,k)) x=Jv (Ah xs) k x) rfl;generalize Jv (Ah xs) k x=o at *;clear g1 g4 g6 HGo Hbo;obtain⟨W3,hW3⟩:∃W3,W3=W2.alloc (.cells #[k.signs,k.base,k.name] 60):=⟨_,rfl⟩
  have hb3:Below W2 W2 W3:=fg;have TK3:=Aa (An TK2.o aI hb3);have TV3:=Aa (An TV2.o aI hb3);have B3:=Aa (B2.o.trans (hb3.mono B2.o.size));have SL3:=Aa (Hsl.o.below hb3);have RS3:=Aa (show W3.rangeAt W2 0 [k.signs,k.base,k.name]by rw[hW3];exact Br W2 [k.signs,k.base,k.name] 60);have hz3:W3.heap.size=W2.heap.size+1:=ev;have HW3:=Aa hW3;clear hb3 hW3;unfold Fi at Hrd ⊢;go_wp2_with fail;rw[<-HW3.o];refine(Hrd.o W3 SL3.o.isc).mono ?_;rintro e W4 ⟨⟨vl,sl,rfl,hs4,hx4⟩,hb4⟩;obtain⟨A4,c4,rfl⟩:=hs4.form;have hz4:=hb4.size;have Hx4:=Aa hx4;obtain⟨W5,hW5⟩:∃W5,W5=W4.alloc (.cells #[.int .u8 (vl.what.toNat:Int),vl.text,(vl.tag:Int),.slice A4 vl.kids.length c4] 68):=⟨_,rfl⟩
  have hb45:Below W4 W4 W5:=fh;have hb5:Below W3 W3 W5:=hb4.trans (hb45.mono hb4.size);have TK5:=Aa (An TK3.o aI hb5);have TV5:=Aa (An TV3.o aI hb5);have B5:=Aa (B3.o.trans (hb5.mono B3.o.size));have SL5:=Aa (SL3.o.below hb5);have RS5:=Aa (Ar RS3.o aI hb5);have RV5:=Aa (show W5.rangeAt W4 0 (Ps (vl,.slice A4 vl.kids.length c4))by rw[hW5];exact Br W4 (Ps (vl,.slice A4 vl.kids.length c4)) 68);have HS5:=Aa ((hs4.after hb45).mono (Q:=fun c=>w.heap.size+2<=c) fun c hc _=>by have:W3.heap.size<=c:=hc;omega);have HW5:=Aa hW5;have hz5:W4.heap.size<W5.heap.size:=by rw[hW5];simp
  clear hW5 hb45 hb5 hb4 hs4 hx4 Hrd;unfold Gf;go_upto_region 5 with fail
  rw[<-HW5.o];refine Xa [32,33,34,35,6,999,998,9]
   (fun ix v W=>match ix with|0=>v=pb|1=>v=.agg #[k.signs,k.base,k.name]|2=>v=.agg #[.int .u8 (vl.what.toNat:Int),vl.text,(vl.tag:Int),.slice A4 vl.kids.length c4]|3=>v=.bool o.isSome|4=>v=pb|7=>v=.bool o.isSome|_=>True)
   (fun L U W=>Below w w W/\W.there w 0 3/\W.there (w.heap.size+1) 0 4/\W.rangeAt W2 0 [k.signs,k.base,k.name]/\W.rangeAt W4 0 (Ps (vl,.slice A4 vl.kids.length c4))/\Rx (w.heap.size+2) W pb xs/\Eb (fun c=>w.heap.size+2<=c) W (.slice A4 vl.kids.length c4) vl.kids/\(L 5=true->W.rangeAt w 0 [k.signs,k.base,k.name])/\(L 6=true->W.rangeAt (w.heap.size+1) 0 (Ps (vl,.slice A4 vl.kids.length c4)))) (⟨B5.o.drew,by simpa using TK5.o,by simpa using TV5.o,by simpa using RS5.o,by simpa using RV5.o,SL5.o.below ((Aq _ _).drew),HS5.o.after ((Aq _ _).drew),fun h=>Bool.noConfusion h,fun h=>Bool.noConfusion h⟩) ?_ ?_
  ·repeat (first|exact Bb.nil|(refine Bb.cons ?_ ?_;rotate_left))
   all_goals
    rintro L U W hL hpre HR Hdep K hK;obtain⟨r1,r2,r3,r4,r5,r6,r7,r8,r9⟩:=HR.o;have c0:W.cell? (W2,0)=k.signs:=by simpa using Ab r4 0 rfl
    have c1:W.cell? (W2,1)=k.base:=by simpa using Ab r4 1 rfl
    have c2:W.cell? (W2,2)=k.name:=by simpa using Ab r4 2 rfl
    have d0:W.cell? (W4,0)=some (.int .u8 (vl.what.toNat:Int)):=by simpa using Ab r5 0 rfl
    have d1:W.cell? (W4,1)=vl.text:=by simpa using Ab r5 1 rfl
    have d2:W.cell? (W4,2)=(vl.tag:Int):=by simpa using Ab r5 2 rfl
    have d3:W.cell? (W4,3)=some (.slice A4 vl.kids.length c4):=by simpa using Ab r5 3 rfl
    first|(simp[Region.binds]at hpre;done)|simp[Region.binds]at hpre|clear hpre
   iterate 5
    ·exact fP
   ·have u1:U 1=.agg #[k.signs,k.base,k.name]:=dq;rw[if_pos dm];refine wp_store_mid 60 _ _ rfl w 0 ([k.signs,k.base,k.name]:List Value).toArray rfl u1 r2 aN bL ?_;exact hK undef _ _ Ae Ae ⟨Ak _ (Al _) _ _ _ r1,ai r2 _ _ _,ai r3 _ _ _,ak r4 _ _ _ (.inl aI),ak r5 _ _ _ (.inl aI),r6.far (Do _ _ _ W) aI,r7.grown (Do _ _ _ W) (fun b hb e=>by injection e with e;have:w.heap.size+2<=b:=hb;omega),fun _=>aa _ _ _ _ r2,fun h=>ak (r9 h) _ _ _ (.inl aI)⟩ rfl
   ·have u1:U 2=.agg #[.int .u8 (vl.what.toNat:Int),vl.text,(vl.tag:Int),.slice A4 vl.kids.length c4]:=dq;rw[if_pos dm];refine wp_store_mid 68 _ _ rfl (w.heap.size+1) 0 (Ps (vl,.slice A4 vl.kids.length c4)).toArray rfl u1 r3 aN (by simp[Ps,Value.oneCell']) ?_;exact hK undef _ _ Ae Ae ⟨Ak _ aI _ _ _ r1,ai r2 _ _ _,ai r3 _ _ _,ak r4 _ _ _ (.inl aI),ak r5 _ _ _ (.inl aI),r6.far (Do _ _ _ W) aI,r7.grown (Do _ _ _ W) (fun b hb e=>by injection e with e;have:w.heap.size+2<=b:=hb;omega),fun h=>ak (r8 h) _ _ _ (.inl aI),fun _=>aa _ _ _ _ r3⟩ rfl
   ·exact fP
  rintro L U W hL hφ hR;have e4:U 4=pb:=hφ 4 aL;have e7:U 7=.bool o.isSome:=hφ 7 aL;simp only[e4,e7];clear hφ;obtain⟨r1,r2,r3,r4,r5,r6,r7,r8,r9⟩:=hR;have R1:=Aa r1;have R6:=Aa r6;have R7:=Aa r7;have R8:=Aa (r8 (hL 5 aL));have R9:=Aa (r9 (hL 6 aL));clear hL r1 r2 r3 r4 r5 r6 r7 r8 r9;go_wp2_with fail;refine aG (v:=.tuple #[pb,.agg ([k.signs,k.base,k.name]:List Value).toArray,.agg (Ps (vl,.slice A4 vl.kids.length c4)).toArray,.bool o.isSome]) ?_ rfl ?_
  ·exact Ro results49 _ _ w.heap.size (w.heap.size+1) _ _ _ _ _ _ rfl rfl rfl rfl R8.o R9.o underlying60 rfl aN underlying68 rfl aN
  refine⟨⟨_,_,_,_,vl,_,by rw[HV.o];rfl,R7.o.mono (fun c hc _=>by have:w.heap.size+2<=c:=hc;omega),fun y hy=>?_⟩,R1.o⟩;rw[HV.o]at hy;exact⟨Hx4.o y hy,_,k,xs,rfl,rfl,rfl,rfl,rfl,R6.o.low aI⟩
end
end Go.Proofs.YtmmhmlmfhpfgbaaGreatDoor
