/- Texts joined. Conditions: as each theorem names them. -/
import Derived.Test.YtpjijpcemejlnaaGreatDoorR26
set_option maxRecDepth 100000
set_option maxHeartbeats 32000000
set_option linter.unusedVariables false
set_option linter.unusedSimpArgs false
namespace Go.Proofs.YtpjijpcemejlnaaGreatDoor
open Go.RowKit Go.Proofs.Tryz
section
attribute [local go_sem] Qm0 Ql8 Qlz Qj6 ByteArray.mk_append_mk
def Rd(tt:List UInt8)(N:Nat)(r:Option (Vl × List UInt8))(v:Vl)(t':List UInt8):Prop:=
 (∀x,r=some x->v=x.1/\t'=x.2)/\Bd v/\t'.length<=tt.length/\(Ba v).length+t'.length<=tt.length+8*N
structure Qmt(w:World)(b B:Nat)(p:Value)(k:Kd)(h0 h1 h2 rv:Value)(xs:List (Vl × Value))(tt:List UInt8)(bb:Bool)(N:Nat)(r:Option (Vl × List UInt8))(c s a d:Bool)(uc us ua:Value)(W:World):Prop where
 r1:∃t2 bad2,My w b p k t2 bad2 W/\(c=false->t2=tt/\bad2=bb)
 r2:a=false->Tl (B+1) B W h0 h1 h2 rv rv xs
 r3:c=true->∃v sl t',uc=Ev v sl/\Rd tt N r v t'/\My w b p k t' r.isNone W/\(a=false->Ee (fun c=>B+1<=c/\rv.ownBlock≠some c) W sl v.kids) /\
  (s=true->a=false->∃W7,W=W7.alloc (.cells (Mf (v,sl)).toArray 47)/\us=.slice (some ⟨W7.heap.size,0,none⟩) 1 1/\Tl (B+1) B W7 h0 h1 h2 rv rv xs/\Ee (fun c=>B+1<=c/\rv.ownBlock≠some c) W7 sl v.kids/\My w b p k t' r.isNone W7) /\
  (a=true->d=false->∃A n c,ua=.slice A n c/\Tl (B+1) B W h0 h1 h2 rv ua (xs++[(v,sl)])) /\
  (d=true->∃A n c,ua=.slice A n c/\Tl (B+1) B W h0 h1 h2 ua ua (xs++[(v,sl)]))
theorem Qgv(w0:World)(b N:Nat)(p:Value)(S:List Ty)(t:List UInt8)(k:Kd)(w:World)(hw:Below w0 w0 w)(hb:w0.heap.size<=b)(h:Ja w b p t false)(hl:t.length<=900)(hN:t.length<=N)(hN2:N<=2000)
  (H:IvC w0 b p S N k) (HG:∀s v r,Aq S 1000 N k s=some (v,r)->s=Ba v++r) (q:Option (Vl × List UInt8)) (hq:q=Xl (Aq S 1000 N k) 1000 t):
  Calls prog 142 #[b,Eh k] w (M0 w b p t (N+1) q):=by
 have HQ:=Aa hq;have HH:=Aa H;have HG:=Aa HG;have HS:=Aa h;have HW:=Aa hw;have hb0:=h.1;have hbn:¬(b=w.heap.size):=aI;have hbn2:¬(b=w.heap.size+1):=aI;have hbn3:¬(b=w.heap.size+2):=aI;have hm:=Fc 91 t false;have Hwt:=Aa (fun W (h:Ja W b p t false)=>Dp b p t [91] false W h aI);have Hlt0:=Aa (fun r (h:Bk [91] t false=some r)=>Km h);obtain⟨t1,ht1⟩:∃t1,t1=(Bk [91] t false).getD t:=⟨_,rfl⟩
 obtain⟨b1,hb1⟩:∃b1,b1=(Bk [91] t false).isNone:=⟨_,rfl⟩
 have Ht1:=Aa ht1;have Hb1:=Aa hb1
 have HL1:=Aa (show b1=false->t1.length<N from by
  intro h;rw[hb1]at h;cases hr:Bk [91] t false with
  |none=>rw[hr]at h;cases h
  |some r=>have:=Hlt0.o r hr;rw[ht1,hr];simp;omega)
 rw[<-ht1]at hm;rw[<-ht1,<-hb1]at Hwt;have Htk:=Aa (fun W (h:Ja W b p t1 b1)=>Kh b p t1 [93] b1 W h aI);have HK:=Aa (fun s=>(rfl:Aq S 1000 N k s=Aq S 1000 N k s));clear h hw H hq ht1 hb1 HK;have HF0:=Aa (My.init (k:=k) HS.o (T:=62) (U:=47));unfold Eh;go_enter func142,ntmps142;go_wp2_with fail;obtain⟨W1,hW1⟩:∃W1,W1=((w.alloc (.cells #[k.signs,k.base,k.name] 62)).alloc (.cells #[.int .u8 0,aa,.int .i64 0,.slice none 0 0] 47)).alloc (.cells #[.int .u8 91,aa,.int .i64 0,.slice none 0 0] 47):=⟨_,rfl⟩
 rw[<-hW1];have hz1:W1.heap.size=w.heap.size+3:=cX;have F1:=@Aa (My w b p k t false W1) (by rw[hW1];exact HF0.o.post ((Am _ _).alloc (Ao _) _))
 have K1:=Aa (show Tl (w.heap.size+2+1) (w.heap.size+2) W1 (.int .u8 91) aa (.int .i64 0) (.slice none 0 0) (.slice none 0 0) []from by
  have hbk:Qa W1 (w.heap.size+2):=by rw[hW1];have:=Qa.new ((w.alloc (.cells #[k.signs,k.base,k.name] 62)).alloc (.cells #[.int .u8 0,aa,.int .i64 0,.slice none 0 0] 47)) #[.int .u8 91,aa,.int .i64 0,.slice none 0 0] 47;simpa using this
  exact⟨by omega,by omega,by omega,hbk,by rw[hW1];simp[go_sem],by rw[hW1];simp[go_sem],by rw[hW1];simp[go_sem],by rw[hW1];simp[go_sem],World.ownsRow_nil _ _ _ _,by simp⟩)
 clear hW1 HF0;refine(Hwt.o _ F1.o.1.1).mono ?_;rintro e W2 ⟨rfl,hs2⟩;have F2:=Aa (F1.o.step hb0 hs2);have K2:=Aa (K1.o.step hs2.2 aI aI);clear hs2 F1 K1;go_wp2_with fail;refine(Htk.o _ F2.o.1.1).mono ?_;rcases hy:Bk [93] t1 b1 with _|r
 ·have Hy:=Aa hy;clear hy;rintro e W3 ⟨rfl,hs3⟩;simp only[Option.getD_none]at hs3;have F3:=Aa (F2.o.step hb0 hs3);have K3:=Aa (K2.o.step hs3.2 aI aI);clear hs3 F2 K2;go_wp2_with fail;go_loopw [] (fun wr=>∃(xs:List (Vl × Value)) (A:Option Addr) (n c:Nat) (tt:List UInt8),tt.length<=t1.length/\wr.cell? (b,1)=tt/\Hid (My w b p k tt b1 wr)/\Hid (Tl (w.heap.size+2+1) (w.heap.size+2) wr (.int .u8 91) aa (.int .i64 0) (.slice A n c) (.slice A n c) xs)/\Hid (LI (Aq S 1000 N k) t1 b1 (Bi xs) tt))
   (fun wr=>match wr.cell? (b,1)with|some (.string s)=>s.size|_=>0)
  case atStart=>exact⟨[],none,0,0,t1,Ao _,F3.o.1.1.2.2.2.1,F3.o,K3.o,LI.init _ _ _⟩
  case round=>
   obtain⟨xs,A,n,c,tt,htl,c1,F,K,hI⟩:=hrel;have s2:=F.o.1.1.2.2.2.2;have hxl:xs.length<=900:=by have:=hI.o.len;simp[Bi]at this;omega
   cases b1 with
   |true=>
    go_wp2_with fail;have Hw9:=Aa (fun W (h:Ja W b p tt true)=>Dp b p tt [93] true W h aI);refine(Hw9.o _ F.o.1.1).mono ?_;rintro e W7 ⟨rfl,hs7⟩;have F7:=Aa (F.o.step hb0 hs7);have K7:=Aa (K.o.step hs7.2 aI aI);have hfin:=Aa (HQ.o.trans ((Aa (hI.o.bad (N:=N))).o.fin Ht1.o Hb1.o Hy.o));have hle9:=Fc 93 tt true;have hE9:=(Aa (hI.o.bad (N:=N))).o.2.1;obtain⟨t4,ht4⟩:∃t4,t4=(Bk [93] tt true).getD tt:=⟨_,rfl⟩
    obtain⟨b4,hb4⟩:∃b4,b4=(Bk [93] tt true).isNone:=⟨_,rfl⟩
    rw[<-ht4]at F7 hfin hle9;rw[<-hb4]at F7 hfin;have e7:(Bi xs).length=(xs).length:=by simp[Bi]
    obtain⟨ys,hys⟩:∃ys,ys=xs:=⟨_,rfl⟩
    rw[<-hys]at K7 hfin hE9 e7;have HB9:=Aa (Aa (hI.o.bad (N:=N))).o.2.2;rw[<-hys]at HB9;have hyl:ys.length<=1000:=by rw[hys];omega
    have d0:=K7.o.c0;have d1:=K7.o.c1;have d2:=K7.o.c2;have d3:=K7.o.c3;have s7:=F7.o.1.1.2.1.live 2;have s8:=F7.o.1.1.2.2.2.2;have q7:=F7.o.1.1.1;have hn7:n=ys.length:=Ni K7.o.row;subst hn7;clear hs7 ht4 hb4 hys;by_cases h20:ys.length<=20
    ·have t20:decide ((20:Int)<(ys.length:Int))=false:=aD aI;go_wp2_with ((with_reducible refine Af (op:=⟨none,.store 47 _ _,_,_,_,none⟩) rfl 47 _ _ rfl (w.heap.size+1) 0 [.int .u8 91,aa,.int .i64 0,.slice A ys.length c] ?_ ?_ ?_ ?_ ?_ ?_);rfl;rfl;(exact F7.o.2.2.1);kernel_rfl;(simp[Value.oneCell']);intro w9 HS9)
     have Z:=My.fin (t:=t) (N:=N+1) (v:=.mk 91 [] 0 (Bi ys)) (sl:=.slice A ys.length c) (r:=q) F7.o hb0 HS9.o ((K7.o.done hyl).mono fun c hc _=>by omega) dx
      dx (.mk aL aI aN HB9.o) aI eW
     exact mN
    have t20:decide ((20:Int)<(ys.length:Int))=true:=aE aI;have F8:=Aa (F7.o.step hb0 ⟨F7.o.1.1.setBad true,Al _ b 2 (.bool true)⟩);have K8:=Aa (K7.o.step (Al _ b 2 (.bool true)) aI aI);go_wp2_with ((with_reducible refine Af (op:=⟨none,.store 47 _ _,_,_,_,none⟩) rfl 47 _ _ rfl (w.heap.size+1) 0 [.int .u8 91,aa,.int .i64 0,.slice A ys.length c] ?_ ?_ ?_ ?_ ?_ ?_);rfl;rfl;(exact F8.o.2.2.1);kernel_rfl;(simp[Value.oneCell']);intro w9 HS9)
    have Z:=My.fin (t:=t) (N:=N+1) (v:=.mk 91 [] 0 (Bi ys)) (sl:=.slice A ys.length c) (r:=q) F8.o hb0 HS9.o ((K8.o.done hyl).mono fun c hc _=>by omega) eI
     eI (.mk aL aI aN HB9.o) aI eW
    exact mN
   |false=>
    have h1N:=HL1.o rfl;go_wp2_with fail;refine Gd [17,18,19,20,21,22,23,24,999]
     (fun ix v W=>match ix with|0=>v=(w,2,3)|1=>v=.slice A n c|2=>v=b|3=>v=Eh k|4=>∃x s,v=Ev x s|5=>∃g,v=.slice (some ⟨g,0,none⟩) 1 1|6=>∃A n c,v=.slice A n c|7=>v=(w,2,3)|_=>True)
     (fun L U W=>Qmt w b (w.heap.size+2) p k (.int .u8 91) aa (.int .i64 0) (.slice A n c) xs tt false N (Aq S 1000 N k tt) (L 4) (L 5) (L 6) (L 8) (U 4) (U 5) (U 6) W) (⟨⟨tt,false,F.o.post (Am _ _).drew,fun _=>⟨rfl,rfl⟩⟩,fun _=>K.o.after (Am _ _).drew,fun h=>Bool.noConfusion h⟩) ?_ ?_
    ·repeat (first|exact Ai.nil|(refine Ai.cons ?_ ?_;rotate_left))
     all_goals
      rintro L U W hL hpre HR Hdep K hK;obtain⟨⟨t2,bad2,hF2,hF2'⟩,R2,R3⟩:=HR.o;have k0:=Ac hF2.2.1 0 rfl;have k1:=Ac hF2.2.1 1 rfl;have k2:=Ac hF2.2.1 2 rfl;simp only[ao]at k0 k1 k2;first|(simp[Region.binds]at hpre;done)|simp[Region.binds]at hpre|clear hpre
     ·exact ii
     ·have h6:L 6=false:=At Hdep.o 6 1 rfl hL;have g3:=(R2 h6).c3;exact lR
     ·exact ii
     ·go_simp;first|exact hK (Eh k) _ _ rfl Ab HR.o rfl|exact hK (Eh k) _ _ rfl Ab HR.o aK
     ·have h5:L 5=false:=At Hdep.o 5 4 rfl hL;have h6:L 6=false:=At Hdep.o 6 5 rfl h5;have h8:L 8=false:=At Hdep.o 8 6 rfl h6;obtain⟨rfl,rfl⟩:=hF2' hL;go_simp;refine(HH.o t2 false _ (hF2.1.env HW.o hb) hF2.1.1 aI (fun _=>by omega)).mono ?_;rintro e w5 ⟨v,sl,t',rfl,hk5,hs5,hx5,hB5,hl5,hn5⟩;simp only[ap,if_false]at hx5 hs5;have hF5:=hF2.step hb0 hs5;have hK5:=(R2 h6).step hs5.2 aI aI;have hks:Ee (fun g=>w.heap.size+2+1<=g/\(Value.slice A n c).ownBlock≠some g) w5 sl v.kids:=hk5.mono fun c hc _=>⟨by have:=(R2 h6).bs;omega,fun e=>by have:=((R2 h6).row.lt c e).2;omega⟩
      exact hK (Ev v sl) _ _ ⟨v,sl,rfl⟩ Ab ⟨⟨t',_,hF5,fun h=>by simp at h⟩,fun _=>hK5,fun _=>⟨v,sl,t',rfl,⟨hx5,hB5,hl5,hn5⟩,hF5,fun _=>hks,fun h=>absurd (h5.symm.trans aQ) aL,fun h=>absurd (h6.symm.trans aQ) aL,fun h=>absurd (h8.symm.trans aQ) aL⟩⟩ aK
     ·have h6:L 6=false:=At Hdep.o 6 5 rfl hL;have h8:L 8=false:=At Hdep.o 8 6 rfl h6;obtain⟨v,sl,t',u4,hrd,hF3,hks,_,_,_⟩:=R3 hpre.1;obtain⟨A7,c7,rfl⟩:=(hks h6).form;have hba:Below W W (W.alloc (.cells (Mf (v,.slice A7 v.kids.length c7)).toArray 47)):=(Am _ _).alloc (Ao _) _;unfold Ev at u4;go_simp;exact hK (.slice (W,0) 1 1) _ _ ⟨W.heap.size,rfl⟩ Ab ⟨⟨t',_,hF3.post hba,fun h=>absurd (hpre.1.symm.trans aQ) aL⟩,fun _=>(R2 h6).after hba,fun _=>⟨v,_,t',u4,hrd,hF3.post hba,fun _=>(hks h6).after hba,fun _ _=>⟨W,rfl,rfl,R2 h6,hks h6,hF3⟩,fun h=>absurd (h6.symm.trans aQ) aL,fun h=>absurd (h8.symm.trans aQ) aL⟩⟩ (by simp[Act.put,u4])
     ·have h8:L 8=false:=At Hdep.o 8 6 rfl hL;obtain⟨lv,uv⟩:=hpre.1;have ls:L 5=true:=hpre.2.1.1;have lc:L 4=true:=hpre.2.2.1;obtain⟨v,sl,t',u4,hrd,hF3,hks,hs,_,_⟩:=R3 lc;obtain⟨W7,rfl,u5,hK7,hk7,hF7⟩:=hs ls hL;obtain⟨A7,c7,e7⟩:=hk7.form;have hlen7:=hK7.row;rw[if_pos cC];refine Fr W7 (.tmp 18) (.tmp 22) 45 rfl (w.heap.size+2+1) 47 (.agg #[.int .u8 0,aa,.int .i64 0,.slice none 0 0]) 4 56 underlying45 Xy rfl aL (Mf (v,sl)) rfl (Xx _ (by rw[e7];rfl)) (.slice A n c) xs.length (xs.flatMap Mf) uv u5 hK7.row aY aI hK7.bs ?_;intro v' w' hown hg hwh;obtain⟨A5',n5',c5',rfl⟩:=Sn hown;have hKa:=hK7.app (x:=(v,sl)) hk7 hown hg hwh;have hFa:My w b p k t' (Aq S 1000 N k tt).isNone w':=hF7.app hb0 hg (fun c e=>by have:=(hK7.row.lt c e).1;omega);exact hK _ _ _ ⟨A5',n5',c5',rfl⟩ Ab ⟨⟨t',_,hFa,fun h=>absurd (lc.symm.trans aQ) aL⟩,fun h=>by simp at h,fun _=>⟨v,sl,t',u4,hrd,hFa,fun h=>by simp at h,fun _ h=>by simp at h,fun _ _=>⟨A5',n5',c5',rfl,hKa⟩,fun h=>absurd (h8.symm.trans aQ) aL⟩⟩ rfl
     ·exact ii
     ·obtain⟨la,A5',n5',c5',ua⟩:=hpre.2.1;have up:=hpre.1.2;have ls:L 5=true:=by
       cases h5:L 5 with
       |true=>rfl
       |false=>exact absurd (la.symm.trans (At Hdep.o 6 5 rfl h5)) aL
      have lc:L 4=true:=by
       cases h4:L 4 with
       |true=>rfl
       |false=>exact absurd (ls.symm.trans (At Hdep.o 5 4 rfl h4)) aL
      obtain⟨v,sl,t',u4,hrd,hF3,_,_,ha,_⟩:=R3 lc;obtain⟨A6',n6',c6',ua',hKa⟩:=ha la hL;rw[ua]at hKa;have hcell:=hKa.c3;have hfz:=hKa.bk.live 3;have hst:=hKa.store;have hst2:Tl (w.heap.size+2+1) (w.heap.size+2) (W.setCell ⟨w.heap.size+2,3,none⟩ (.slice A5' n5' c5')) (.int .u8 91) aa (.int .i64 0) (U 6) (U 6) (xs++[(v,sl)]):=by rw[ua];exact hst
      have hFs:My w b p k t' (Aq S 1000 N k tt).isNone (W.setCell ⟨w.heap.size+2,3,none⟩ (.slice A5' n5' c5')):=hF3.put hb0 aI _;go_simp;exact hK undef _ _ Ab Ab ⟨⟨t',_,hFs,fun h=>absurd (lc.symm.trans aQ) aL⟩,fun h=>absurd (la.symm.trans aQ) aL,fun _=>⟨v,sl,t',u4,hrd,hFs,fun h=>absurd (la.symm.trans aQ) aL,fun _ h=>absurd (la.symm.trans aQ) aL,fun _ h=>by simp at h,fun _=>⟨A5',n5',c5',ua,hst2⟩⟩⟩ (by simp[Act.put,hpre,up,ua,u4])
    rintro L U W hL hφ hR;clear hφ;obtain⟨_,_,h3⟩:=hR;obtain⟨v,sl,t',_,hrd,hF,_,_,_,hd⟩:=h3 (hL 4 aL);obtain⟨A5,n5,c5,e5,hK5⟩:=hd (hL 8 aL);rw[e5]at hK5;have F5:=Aa hF;have K5:=Aa hK5;have Rd5:=Aa hrd;have ht5:=hrd.2.2.1;clear hL h3 hd hF hK5 hrd;have Htk5:=Aa (fun W (h:Ja W b p t' (Aq S 1000 N k tt).isNone)=>Kh b p t' [44] (Aq S 1000 N k tt).isNone W h aI);go_wp2_with fail;refine(Htk5.o _ F5.o.1.1).mono ?_;rcases hc:Bk [44] t' (Aq S 1000 N k tt).isNone with _|r
    ·have Hc:=Aa hc;clear hc;rintro e W6 ⟨rfl,hs6⟩;simp only[Option.getD_none]at hs6;have F6:=Aa (F5.o.step hb0 hs6);have K6:=Aa (K5.o.step hs6.2 aI aI)
     have E6:=Aa (show LE (Aq S 1000 N k) t1 false (Bi (xs++[(v,sl)])) t' (Aq S 1000 N k tt).isNone N from by
      have:=hI.o.brk (N:=N) Rd5.o.1 Hc.o Rd5.o.2.1 aI Rd5.o.2.2.2;simpa [Bi]using this)
     clear hs6 F5 K5 Hc;go_wp2_with fail;have Hw9:=Aa (fun W (h:Ja W b p t' (Aq S 1000 N k tt).isNone)=>Dp b p t' [93] (Aq S 1000 N k tt).isNone W h aI);refine(Hw9.o _ F6.o.1.1).mono ?_;rintro e W7 ⟨rfl,hs7⟩;have F7:=Aa (F6.o.step hb0 hs7);have K7:=Aa (K6.o.step hs7.2 aI aI);have hfin:=Aa (HQ.o.trans (E6.o.fin Ht1.o Hb1.o Hy.o));have hle9:=Fc 93 t' (Aq S 1000 N k tt).isNone;have hE9:=E6.o.2.1;obtain⟨t4,ht4⟩:∃t4,t4=(Bk [93] t' (Aq S 1000 N k tt).isNone).getD t':=⟨_,rfl⟩
     obtain⟨b4,hb4⟩:∃b4,b4=(Bk [93] t' (Aq S 1000 N k tt).isNone).isNone:=⟨_,rfl⟩
     rw[<-ht4]at F7 hfin hle9;rw[<-hb4]at F7 hfin;have e7:(Bi (xs++[(v,sl)])).length=((xs++[(v,sl)])).length:=by simp[Bi]
     obtain⟨ys,hys⟩:∃ys,ys=(xs++[(v,sl)]):=⟨_,rfl⟩
     rw[<-hys]at K7 hfin hE9 e7;have HB9:=Aa E6.o.2.2;rw[<-hys]at HB9;have hyl:ys.length<=1000:=by rw[hys];simp;omega
     have d0:=K7.o.c0;have d1:=K7.o.c1;have d2:=K7.o.c2;have d3:=K7.o.c3;have s7:=F7.o.1.1.2.1.live 2;have s8:=F7.o.1.1.2.2.2.2;have q7:=F7.o.1.1.1;have hn7:n5=ys.length:=Ni K7.o.row;subst hn7;clear hs7 ht4 hb4 hys;by_cases h20:ys.length<=20
     ·have t20:decide ((20:Int)<(ys.length:Int))=false:=aD aI;go_wp2_with ((with_reducible refine Af (op:=⟨none,.store 47 _ _,_,_,_,none⟩) rfl 47 _ _ rfl (w.heap.size+1) 0 [.int .u8 91,aa,.int .i64 0,.slice A5 ys.length c5] ?_ ?_ ?_ ?_ ?_ ?_);rfl;rfl;(exact F7.o.2.2.1);kernel_rfl;(simp[Value.oneCell']);intro w9 HS9)
      have Z:=My.fin (t:=t) (N:=N+1) (v:=.mk 91 [] 0 (Bi ys)) (sl:=.slice A5 ys.length c5) (r:=q) F7.o hb0 HS9.o ((K7.o.done hyl).mono fun c hc _=>by omega) dx
       dx (.mk aL aI aN HB9.o) aI eW
      exact mO
     have t20:decide ((20:Int)<(ys.length:Int))=true:=aE aI;have F8:=Aa (F7.o.step hb0 ⟨F7.o.1.1.setBad true,Al _ b 2 (.bool true)⟩);have K8:=Aa (K7.o.step (Al _ b 2 (.bool true)) aI aI);go_wp2_with ((with_reducible refine Af (op:=⟨none,.store 47 _ _,_,_,_,none⟩) rfl 47 _ _ rfl (w.heap.size+1) 0 [.int .u8 91,aa,.int .i64 0,.slice A5 ys.length c5] ?_ ?_ ?_ ?_ ?_ ?_);rfl;rfl;(exact F8.o.2.2.1);kernel_rfl;(simp[Value.oneCell']);intro w9 HS9)
     have Z:=My.fin (t:=t) (N:=N+1) (v:=.mk 91 [] 0 (Bi ys)) (sl:=.slice A5 ys.length c5) (r:=q) F8.o hb0 HS9.o ((K8.o.done hyl).mono fun c hc _=>by omega) eI
      eI (.mk aL aI aN HB9.o) aI eW
     exact mO
    have Hc:=Aa hc;have hcl:=Km hc;clear hc;rintro e W6 ⟨rfl,hs6⟩;simp only[Option.getD_some]at hs6;cases hk:Aq S 1000 N k tt with
    |none=>rw[hk,Co]at Hc;exact absurd Hc.o aN
    |some y=>
     have Hk:=Aa hk;rw[hk]at hs6 F5 Rd5;have F6:=Aa (F5.o.step hb0 hs6);have K6:=Aa (K5.o.step hs6.2 aI aI)
     have I6:=Aa (show LI (Aq S 1000 N k) t1 false (Bi (xs++[(v,sl)])) r from by
      obtain⟨e1,e2⟩:=Rd5.o.1 y rfl;have hg:=HG.o tt y.1 y.2 (by rw[Hk.o]);have h44:Av 44 t'=some r:=by have:=Hc.o;rw[Hk.o,Co]at this;simpa using this
      have:=hI.o.step (v:=v) (t':=t') (by rw[Hk.o,e1,e2]) (by rw[hg,e1,e2];simp) h44 Rd5.o.2.1 aI;simpa [Bi]using this)
     have c6:=F6.o.1.1.2.2.2.1;clear hs6 F5 K5 hk;go_wp2_with fail;go_roundw
     case rel=>exact⟨xs++[(v,sl)],A5,n5,c5,r,by omega,c6,F6.o,K6.o,I6.o⟩
     case measure=>simp[c1,c6,ByteArray.size];omega
 have Hy:=Aa hy;have hlt:=Km hy;clear hy;rintro e W3 ⟨rfl,hs3⟩;simp only[Option.getD_some]at hs3;have F3:=Aa (F2.o.step hb0 hs3);have K3:=Aa (K2.o.step hs3.2 aI aI);clear hs3 F2 K2;have d0:=K3.o.c0;have d1:=K3.o.c1;have d2:=K3.o.c2;have d3:=K3.o.c3;go_wp2_with ((with_reducible refine Af (op:=⟨none,.store 47 _ _,_,_,_,none⟩) rfl 47 _ _ rfl (w.heap.size+1) 0 [.int .u8 91,aa,.int .i64 0,.slice none 0 0] ?_ ?_ ?_ ?_ ?_ ?_);rfl;rfl;(exact F3.o.2.2.1);kernel_rfl;(simp[Value.oneCell']);intro w9 HS9)
 have hq2:q=some (.mk 91 [] 0 [],r):=by
  have h1:=Ht1.o;have h2:=Hb1.o;have h3:=Hy.o;rw[HQ.o];rw[Co]at h1 h2 h3;unfold Xl;simp only[ap,if_false]at h1 h2;cases h9:Av 91 t with
  |none=>rw[h9]at h2;simp at h2;subst h2;simp at h3
  |some z=>
   rw[h9]at h1 h2;simp at h1 h2;subst h1 h2;simp only[ap,if_false]at h3;simp only[h3]
 have Z:=My.fin (t:=t) (N:=N+1) (v:=.mk 91 [] 0 []) (sl:=.slice none 0 0) (r:=q) F3.o hb0 HS9.o (Ee.nil _ _) (by rw[hq2];cases b1;rfl;have:=Hy.o;rw[Co]at this;simp at this)
  (by rw[hq2];simp) (Fp aL aL) aI (by simp[Ba,Dz,H6,Aw];omega)
 exact aG (v:=.agg (Jx (.mk 91 [] 0 []) (.slice none 0 0)).toArray) (Bh results142 _ _ (w.heap.size+1) _ _ rfl Z.2 underlying47 rfl aP) rfl Z.1
structure Vb(B:Nat)(W:World)(h0 h1 h2 h3:Value):Prop where
 lt:B<W.heap.size
 bk:Qa W B
 c0:W.cell? (B,0)=some h0
 c1:W.cell? (B,1)=some h1
 c2:W.cell? (B,2)=some h2
 c3:W.cell? (B,3)=some h3
theorem Vb.new{w:World}{h0 h1 h2 h3:Value}{T:TypeId}:Vb w.heap.size (w.alloc (.cells #[h0,h1,h2,h3] T)) h0 h1 h2 h3:=⟨by simp,Qa.new _ _ _,by simp,by simp,by simp,by simp⟩
theorem Vb.grown{B:Nat}{W W':World}{h0 h1 h2 h3:Value}{row:Option Nat}(h:Vb B W h0 h1 h2 h3)(hg:W.grownBy W' row)(hn:some B≠row):Vb B W' h0 h1 h2 h3:=
 ⟨ad h.lt hg.size,h.bk.grown h.lt hg hn,hg.cell h.c0 hn,hg.cell h.c1 hn,hg.cell h.c2 hn,hg.cell h.c3 hn⟩
theorem Vb.after{B:Nat}{W W':World}{h0 h1 h2 h3:Value}(h:Vb B W h0 h1 h2 h3)(hb:Below W W W'):Vb B W' h0 h1 h2 h3:=h.grown (Cf hb none) aN
theorem Vb.set2{B:Nat}{W:World}{h0 h1 h2 h3:Value}(h:Vb B W h0 h1 h2 h3)(v:Value):Vb B (W.setCell ⟨B,2,none⟩ v) h0 h1 v h3:=by
 have hf:=h.bk.live 2;exact⟨by simpa using h.lt,h.bk.set _,by simp[go_sem,h.c0],by simp[go_sem,h.c1],by simp[go_sem,h.c2,hf],by simp[go_sem,h.c3]⟩
theorem Vb.set3{B:Nat}{W:World}{h0 h1 h2 h3:Value}(h:Vb B W h0 h1 h2 h3)(v:Value):Vb B (W.setCell ⟨B,3,none⟩ v) h0 h1 h2 v:=by
 have hf:=h.bk.live 3;exact⟨by simpa using h.lt,h.bk.set _,by simp[go_sem,h.c0],by simp[go_sem,h.c1],by simp[go_sem,h.c2],by simp[go_sem,h.c3,hf]⟩
theorem Q4.init{w:World}{b:Nat}{p:Value}{t:List UInt8}{bad:Bool}(h:Ja w b p t bad){T:TypeId}:Q4 w b p w.heap.size t bad (w.alloc (.cells #[.int .u8 0,aa,.int .i64 0,.slice none 0 0] T)):=
 ⟨⟨h.grow ((Am _ _).alloc (Ao _) _),Cf ((Am _ _).alloc (Ao _) _) _⟩,B9 w [.int .u8 0,aa,.int .i64 0,.slice none 0 0] _,Ao _,by simp⟩
theorem Qkw(fs:List Fd)(t:List UInt8)(t1 t2:List UInt8)(b1 b2:Bool)(h1:t1=(Bk [35] t false).getD t)(hb1:b1=(Bk [35] t false).isNone)(h2:t2=t1.dropWhile Bm)(hb2:b2=(b1 || !Jg 200 t1)):
  (match Av 35 t with
   |none=>none
   |some r=>match G0 fs r with|some (f,q)=>some (Vl.mk 69 [] f.tag [],q)|none=>none)=if b2 || (Au fs (J2 t1)).isNone then none else some (.mk 69 [] (J2 t1) [],t2):=by
 rw[Co]at h1 hb1;simp only[ap,if_false]at h1 hb1;cases hy:Av 35 t with
 |none=>rw[hy]at hb1;simp at hb1;subst hb1 hb2;simp
 |some r=>
  rw[hy]at h1 hb1;simp at h1 hb1;subst h1 hb1 h2 hb2;simp only[Qdp];cases Jg 200 t1 with
  |false=>simp
  |true=>
   simp only[if_true,Bool.false_or,Bool.not_true];cases hf:Au fs (J2 t1)with
   |none=>simp
   |some f=>have:=(Ax hf).1;simp[this]
theorem Qjw(w0:World)(b N:Nat)(p:Value)(S:List Ty)(x:PT)(hx:Rl w0 x)(h9:x.ty.sort=69)(t:List UInt8)(w:World)(hw:Below w0 w0 w)(hb:w0.heap.size<=b)(h:Ja w b p t false)(hl:t.length<=900)
  (q:Option (Vl × List UInt8)) (hq:q=Kr S (Aq S 1000 N) x.ty t):
  Calls prog 145 #[b,x.blk] w (M0 w b p t (N+1) q):=by
 have HQ:=Aa (hq.trans (by unfold Kr;rw[if_pos h9]));have HS:=Aa h;have HW:=Aa hw;have hb0:=h.1;have hx0:=hx.1;have x0:=(hw.cell (p:=⟨x.blk,0,none⟩) hx0).trans hx.2.2.1;have hxw:x.blk<w.heap.size:=gx;have hxn:¬(x.blk=w.heap.size):=gx;have hxn2:¬(x.blk=w.heap.size+1):=gx;rw[h9]at x0;have x0':w.cell? (x.blk,0)=some (.int .u8 69):=x0;clear x0;have hm:=Fc 35 t false;have Hwt:=Aa (fun W (h:Ja W b p t false)=>Dp b p t [35] false W h aI);obtain⟨t1,ht1⟩:∃t1,t1=(Bk [35] t false).getD t:=⟨_,rfl⟩
 obtain⟨b1,hb1⟩:∃b1,b1=(Bk [35] t false).isNone:=⟨_,rfl⟩
 have HQ2:=Aa (HQ.o.trans (Qkw x.ty.fields t t1 (t1.dropWhile Bm) b1 (b1 || !Jg 200 t1) ht1 hb1 rfl rfl));rw[<-ht1]at hm;rw[<-ht1,<-hb1]at Hwt;have Hn:=Aa (fun W (h:Ja W b p t1 b1)=>Qi b 200 p t1 b1 W h aI aL);have hnn:=Qbi t1;have hdr:=Qb5 Bm t1;have Hf:=Aa (fun W (hW:Below w0 w0 W)=>Pm w0 x hx (J2 t1) W hW aI);have hdl:=Db 5 (J2 t1) dj;generalize (b1 || !Jg 200 t1)=b2 at *;generalize t1.dropWhile Bm=t2 at *;generalize J2 t1=n at *;clear ht1 hb1 h hw hq h9 HQ;go_enter func145,ntmps145;go_wp2_with fail;have F1:=Aa ((Q4.init HS.o (T:=47)).post ((Am _ _).alloc (Ao _) (.cells #[.int .u8 69,aa,.int .i64 0,.slice none 0 0] 47)));have V1:=@Aa (Vb (w.heap.size+1) _ _ _ _ _) (by have:=Vb.new (w:=w.alloc (.cells #[.int .u8 0,aa,.int .i64 0,.slice none 0 0] 47)) (h0:=.int .u8 69) (h1:=aa) (h2:=.int .i64 0) (h3:=.slice none 0 0) (T:=47);simpa using this);refine(Hwt.o _ F1.o.1.1).mono ?_;rintro e w2 ⟨rfl,hs2⟩;have F2:=Aa (F1.o.step hb0 hs2);have V2:=Aa (V1.o.grown hs2.2 aO);clear hs2 F1 V1;go_wp2_with fail;refine(Hn.o _ F2.o.1.1).mono ?_;rintro e w3 ⟨rfl,hs3⟩;have F3:=Aa (F2.o.step hb0 hs3);have V3:=Aa (V2.o.grown hs3.2 aO);clear hs3 F2 V2;have c2:=V3.o.c2;have f2:=V3.o.bk.live 2;have l2:=V3.o.lt;go_wp2_with fail;have F4:=Aa (F3.o.app hb0 (Al w3 (w.heap.size+1) 2 (n:Int)) (fun k e=>by injection e with e;omega));have V4:=Aa (V3.o.set2 (n:Int));refine(Hf.o _ (F4.o.1.env HW.o hb)).mono ?_;rintro e w4 ⟨fp,rfl,hfp,rfl⟩;cases hfo:Au x.ty.fields n with
 |some g=>
  rw[hfo]at hfp HQ2;obtain⟨fb,fo,rfl,_,_⟩:=hfp;have d0:=V4.o.c0;have d1:=V4.o.c1;have d2:=V4.o.c2;have d3:=V4.o.c3;clear hfo c2 f2 l2;generalize w3.setCell ⟨w.heap.size+1,2,none⟩ (n:Int)=w4 at *;go_wp2_with ((with_reducible refine Af (op:=⟨none,.store 47 _ _,_,_,_,none⟩) rfl 47 _ _ rfl w 0 [.int .u8 69,aa,(n:Int),.slice none 0 0] ?_ ?_ ?_ ?_ ?_ ?_);rfl;rfl;(exact F4.o.2.1);kernel_rfl;(simp[Value.oneCell']);intro w9 HS9)
  have Z:=Q4.fin (v:=.mk 69 [] n []) (sl:=.slice none 0 0) F4.o hb0 HS9.o (Ee.nil _ _);refine aG (v:=.agg (Jx (.mk 69 [] n []) (.slice none 0 0)).toArray) (Bh results145 _ _ w.heap.size _ _ rfl Z.2.2 underlying47 rfl aP) rfl ⟨.mk 69 [] n [],_,t2,rfl,Z.1,?_,?_,Fp aI aL,by omega,by simp[Ba,Dz,H6];omega⟩
  ·rw[HQ2.o];cases b2<;>exact Z.2.1
  rw[HQ2.o];cases b2<;>simp
 |none=>
  rw[hfo]at hfp HQ2;have hfp':fp=.pointer none:=hfp;subst hfp';have s2:=F4.o.1.1.2.2.2.2;have sb:=F4.o.1.1.2.1.live 2;have s0:=F4.o.1.1.1;clear hfo c2 f2 l2;generalize w3.setCell ⟨w.heap.size+1,2,none⟩ (n:Int)=w4 at *;have F5:=Aa (F4.o.step hb0 ⟨F4.o.1.1.setBad true,Al _ b 2 (.bool true)⟩);have V5:=Aa (V4.o.grown (Al w4 b 2 (.bool true)) aO);have d0:=V5.o.c0;have d1:=V5.o.c1;have d2:=V5.o.c2;have d3:=V5.o.c3;go_wp2_with ((with_reducible refine Af (op:=⟨none,.store 47 _ _,_,_,_,none⟩) rfl 47 _ _ rfl w 0 [.int .u8 69,aa,(n:Int),.slice none 0 0] ?_ ?_ ?_ ?_ ?_ ?_);rfl;rfl;(exact F5.o.2.1);kernel_rfl;(simp[Value.oneCell']);intro w9 HS9)
  have Z:=Q4.fin (v:=.mk 69 [] n []) (sl:=.slice none 0 0) F5.o hb0 HS9.o (Ee.nil _ _);refine aG (v:=.agg (Jx (.mk 69 [] n []) (.slice none 0 0)).toArray) (Bh results145 _ _ w.heap.size _ _ rfl Z.2.2 underlying47 rfl aP) rfl ⟨.mk 69 [] n [],_,t2,rfl,Z.1,?_,?_,Fp aI aL,by omega,by simp[Ba,Dz,H6];omega⟩
  ·rw[HQ2.o];simpa using Z.2.1
  rw[HQ2.o];simp
def Qjd(q1:Option ((Fd × Vl) × List UInt8))(t2:List UInt8):Option (Vl × List UInt8):=match q1 with
 |none=>none
 |some (p,_)=>if (Bk [62] t2 false).isNone then none else some (.mk 85 [] p.1.tag [p.2],(Bk [62] t2 false).getD t2)
theorem Qka(K:Kd->List UInt8->Option (Vl × List UInt8))(fs:List Fd)(t t1 t2:List UInt8)(b1:Bool)(q1:Option ((Fd × Vl) × List UInt8))(h1:t1=(Bk [60] t false).getD t)(hb1:b1=(Bk [60] t false).isNone)(h2:q1=if b1 then none else De K fs t1)(h3:∀y,q1=some y->t2=y.2):
  (match Av 60 t with
   |none=>none
   |some r=>match De K fs r with
    |none=>none
    |some (p,q)=>match Av 62 q with|some z=>some (Vl.mk 85 [] p.1.tag [p.2],z)|none=>none) =
  Qjd q1 t2:=by
 rw[Co]at h1 hb1;simp only[ap,if_false]at h1 hb1;cases hy:Av 60 t with
 |none=>rw[hy]at hb1;simp at hb1;subst hb1;simp at h2;subst h2;simp[Qjd]
 |some r=>
  rw[hy]at h1 hb1;simp at h1 hb1;subst h1 hb1;simp only[ap,if_false]at h2;subst h2;simp only;cases hk:De K fs t1 with
  |none=>simp[Qjd]
  |some y=>
   obtain⟨p,q⟩:=y;obtain rfl:=h3 _ hk;simp only[Qjd,Co,ap,if_false];cases Av 62 t2<;>simp
structure Qdn(w0 w:World)(b B X:Nat)(p:Value)(t:List UInt8)(bad:Bool)(g:Fd)(x:Vl)(fp:Value)(sl h2 h3:Value)(W:World):Prop where
 f:Q4 w b p w.heap.size t bad W
 v:Vb B W (.int .u8 85) aa h2 h3
 xr:W.rangeAt X 0 [.int .u8 61,aa,(g.tag:Int),sl]
 k:Ee (fun c=>B<c) W sl [x]
 p:Ka w0.heap.size W fp (some g)
 lw:Below w0 w0 W
theorem Qdn.put{w0 w W:World}{b B X o:Nat}{p:Value}{t:List UInt8}{bad:Bool}{g:Fd}{x:Vl}{fp sl h2 h3 h2' h3':Value}(h:Qdn w0 w b B X p t bad g x fp sl h2 h3 W)(u:Value)(hV:Vb B (W.setCell ⟨B,o,none⟩ u) (.int .u8 85) aa h2' h3')
  (hb:b<w.heap.size) (hB:w.heap.size<B) (hX:B<X) (h0:w0.heap.size<=w.heap.size):Qdn w0 w b B X p t bad g x fp sl h2' h3' (W.setCell ⟨B,o,none⟩ u):=by
 have hg:=Al W B o u;have hlw:Below w0 w0 (W.setCell ⟨B,o,none⟩ u):=h.lw.grown hg h.lw.size fun k hk=>by injection hk with hk;omega
 exact⟨h.f.app hb hg (fun k e=>by injection e with e;omega),hV,C5 h.xr hg cd,h.k.grown hg (fun c hc e=>by injection e with e;omega),h.p.via h.lw hlw,hlw⟩
theorem Qdn.drew{w0 w W:World}{b B X:Nat}{p:Value}{t:List UInt8}{bad:Bool}{g:Fd}{x:Vl}{fp sl h2 h3:Value}(h:Qdn w0 w b B X p t bad g x fp sl h2 h3 W):Qdn w0 w b B X p t bad g x fp sl h2 h3 W.drew:=
 ⟨h.f.post (Am _ _).drew,h.v.after (Am _ _).drew,h.xr,h.k.after (Am _ _).drew,h.p.via h.lw h.lw.drew,h.lw.drew⟩
theorem Qiz(w0:World)(b N:Nat)(p:Value)(S:List Ty)(x:PT)(hx:Rl w0 x)(h5:x.ty.sort=85)(t:List UInt8)(w:World)(hw:Below w0 w0 w)(hb:w0.heap.size<=b)(h:Ja w b p t false)(hl:t.length<=900)(hN:t.length<=N)(hN2:N<=2000)
  (htg:∀f∈x.ty.fields,f.tag<=200) (H:∀f∈x.ty.fields,IvC w0 b p S N f.kind) (q:Option (Vl × List UInt8)) (hq:q=Kr S (Aq S 1000 N) x.ty t):
  Calls prog 145 #[b,x.blk] w (M0 w b p t (N+1) q):=by
 have HQ:=Aa (hq.trans (by unfold Kr;rw[if_neg d9,if_pos h5]));have HS:=Aa h;have HW:=Aa hw;have hb0:=h.1;have hx0:=hx.1;have hww:=hw.size;have x0:=(hw.cell (p:=⟨x.blk,0,none⟩) hx0).trans hx.2.2.1;have hxw:x.blk<w.heap.size:=aI;have hxn:¬(x.blk=w.heap.size):=aI;have hxn2:¬(x.blk=w.heap.size+1):=aI;rw[h5]at x0;have x0':w.cell? (x.blk,0)=some (.int .u8 85):=x0;clear x0;have hm:=Fc 60 t false;have Hwt:=Aa (fun W (h:Ja W b p t false)=>Dp b p t [60] false W h aI);obtain⟨t1,ht1⟩:∃t1,t1=(Bk [60] t false).getD t:=⟨_,rfl⟩
 obtain⟨b1,hb1⟩:∃b1,b1=(Bk [60] t false).isNone:=⟨_,rfl⟩
 obtain⟨q1,hq1⟩:∃q1,q1=if b1 then none else De (Aq S 1000 N) x.ty.fields t1:=⟨_,rfl⟩
 have HQ2:=Aa (fun t2 h3=>HQ.o.trans (Qka (Aq S 1000 N) x.ty.fields t t1 t2 b1 q1 ht1 hb1 hq1 h3));rw[<-ht1]at hm;rw[<-ht1,<-hb1]at Hwt;have Hfd:=Aa (fun W (h1:Below w0 w0 W) (h2:Ja W b p t1 b1)=>Qcg w0 b N p S x hx t1 W h1 hb b1 h2 aI (fun _=>by omega) hN2 htg H q1 hq1);clear ht1 hb1 h hw hq h5 HQ hq1 H;go_enter func145,ntmps145;go_wp2_with fail;have F1:=Aa ((Q4.init HS.o (T:=47)).post ((Am _ _).alloc (Ao _) (.cells #[.int .u8 85,aa,.int .i64 0,.slice none 0 0] 47)));have V1:=@Aa (Vb (w.heap.size+1) _ _ _ _ _) (by have:=Vb.new (w:=w.alloc (.cells #[.int .u8 0,aa,.int .i64 0,.slice none 0 0] 47)) (h0:=.int .u8 85) (h1:=aa) (h2:=.int .i64 0) (h3:=.slice none 0 0) (T:=47);simpa using this);refine(Hwt.o _ F1.o.1.1).mono ?_;rintro e w2 ⟨rfl,hs2⟩;have F2:=Aa (F1.o.step hb0 hs2);have V2:=Aa (V1.o.grown hs2.2 aO);have hz2:w.heap.size+2<=w2.heap.size:=by have:=hs2.2.size;simp at this;omega
 clear hs2 F1 V1;go_wp2_with fail;refine(Hfd.o _ (F2.o.1.env HW.o hb) F2.o.1.1).mono ?_;rintro e w3 ⟨v,sl,fp,t2,rfl,hk3,hs3,hB3,hl3,hn3,hcase⟩;obtain⟨A7,c7,rfl⟩:=hk3.form;have F3:=Aa (F2.o.step hb0 hs3);have V3:=Aa (V2.o.grown hs3.2 aO);have Hk3:=Aa hk3;have hz3:w2.heap.size<=w3.heap.size:=hs3.2.size;clear hs3 F2 V2 hk3;unfold Ev;have hm3:=Fc 62 t2 q1.isNone;have Hwt2:=Aa (fun W (h:Ja W b p t2 q1.isNone)=>Dp b p t2 [62] q1.isNone W h aI);rcases hcase with⟨rfl,hq1⟩|⟨g,y,hfp,rfl,hfg,hBy,hy⟩
 ·have HQ3:=@Aa (q=none) (by rw[HQ2.o t2 (by rw[hq1];simp),hq1];rfl);have hw3:Bk [62] t2 q1.isNone=none:=by rw[hq1,Co];rfl
  rw[hw3]at Hwt2;simp only[Option.getD_none,Option.isNone_none]at Hwt2;clear hq1 hw3 HQ2 hB3;go_wp2_with fail;have F4:=Aa (F3.o.post ((Am w3.heap.size w3).alloc (Ao _) (.cells #[.int .u8 (v.what.toNat:Int),v.text,(v.tag:Int),.slice A7 v.kids.length c7] 47)));have V4:=Aa (V3.o.after ((Am w3.heap.size w3).alloc (Ao _) (.cells #[.int .u8 (v.what.toNat:Int),v.text,(v.tag:Int),.slice A7 v.kids.length c7] 47)));refine(Hwt2.o _ F4.o.1.1).mono ?_;rintro e w5 ⟨rfl,hs5⟩;have F5:=Aa (F4.o.step hb0 hs5);have V5:=Aa (V4.o.grown hs5.2 aO);have d0:=V5.o.c0;have d1:=V5.o.c1;have d2:=V5.o.c2;have d3:=V5.o.c3;clear hs5 F4 V4;go_wp2_with ((with_reducible refine Af (op:=⟨none,.store 47 _ _,_,_,_,none⟩) rfl 47 _ _ rfl w 0 [.int .u8 85,aa,.int .i64 0,.slice none 0 0] ?_ ?_ ?_ ?_ ?_ ?_);rfl;rfl;(exact F5.o.2.1);kernel_rfl;(simp[Value.oneCell']);intro w9 HS9)
  have Z:=Q4.fin (v:=.mk 85 [] 0 []) (sl:=.slice none 0 0) F5.o hb0 HS9.o (Ee.nil _ _);exact aG (v:=.agg (Jx (.mk 85 [] 0 []) (.slice none 0 0)).toArray) (Bh results145 _ _ w.heap.size _ _ rfl Z.2.2 underlying47 rfl aP) rfl ⟨.mk 85 [] 0 [],_,t2,rfl,Z.1,by rw[HQ3.o];exact Z.2.1,by rw[HQ3.o];simp,Fp aL aL,by omega,by simp[Ba,Dz,H6,Aw,Ey];omega⟩
 have HQ3:=Aa (HQ2.o t2 (fun z hz=>by rw[hy z hz]));obtain⟨t4,ht4⟩:∃t4,t4=(Bk [62] t2 q1.isNone).getD t2:=⟨_,rfl⟩
 obtain⟨b4,hb4⟩:∃b4,b4=(Bk [62] t2 q1.isNone).isNone:=⟨_,rfl⟩
 rw[<-ht4,<-hb4]at Hwt2;rw[<-ht4]at hm3
 have HQ4:=Aa (show q=if b4 then none else some (.mk 85 [] g.tag [y],t4)from by
  rw[HQ3.o];cases hq1:q1 with
  |none=>rw[hq1,Co]at hb4;simp at hb4;subst hb4;rfl
  |some z=>
   obtain⟨z1,z2⟩:=z;have:=hy _ hq1;injection this with e1 e2;subst e1;rw[hq1]at ht4 hb4;unfold Qjd;simp only;rw[ht4,hb4];rfl)
 have hpl:=Jn (g,y);obtain⟨fb,fo,rfl,hfb,hfr⟩:=hfp;have HP3:=@Aa (Ka w0.heap.size w3 (.pointer (some ⟨fb,fo,none⟩)) (some g)) ⟨fb,fo,rfl,hfb,hfr⟩;have hgt:=htg g (Ax hfg).2;have HBy:=Aa hBy;clear ht4 hb4 HQ2 HQ3 hB3 hfr hy hBy hfg;simp only[Df,Vl.what,Vl.text,Vl.tag,Vl.kids,List.length_singleton]at Hk3 hn3 ⊢;go_wp2_with fail;obtain⟨W4,hW4⟩:∃W4,W4=w3.alloc (.cells #[.int .u8 61,aa,(g.tag:Int),.slice A7 1 c7] 47):=⟨_,rfl⟩
 have hb4:Below w3 w3 W4:=by rw[hW4];exact(Am _ _).alloc (Ao _) _
 have X4:=@Aa (W4.rangeAt w3 0 [.int .u8 61,aa,(g.tag:Int),.slice A7 1 c7]) (by rw[hW4];exact Br w3 [.int .u8 61,aa,(g.tag:Int),.slice A7 1 c7] _);have hz4:w3.heap.size<W4.heap.size:=by rw[hW4];simp
 have F4:=Aa (F3.o.post hb4);have V4:=Aa (V3.o.after hb4);have Hk4:=Aa (Hk3.o.after hb4);have HP4:=Aa (HP3.o.via (F3.o.1.env HW.o hb) (F4.o.1.env HW.o hb));have hW4':w3.alloc (.cells #[.int .u8 ((61:UInt8).toNat:Int),([]:List UInt8),(g.tag:Int),.slice A7 1 c7] 47)=W4:=hW4.symm;first|rw[<-hW4]|rw[hW4']
 generalize w3.heap.size=BX at *;clear hW4 hW4' hb4 F3 V3 Hk3 HP3;refine(Hwt2.o _ F4.o.1.1).mono ?_;rintro e w5 ⟨rfl,hs5⟩;have F5:=Aa (F4.o.step hb0 hs5);have V5:=Aa (V4.o.grown hs5.2 aO)
 have U5:=Aa (show Qdn w0 w b (w.heap.size+1) BX p t4 b4 g y (.pointer (some ⟨fb,fo,none⟩)) (.slice A7 1 c7) (.int .i64 0) (.slice none 0 0) w5 from
  ⟨F5.o,V5.o,C5 X4.o hs5.2 aO,(Hk4.o.grown hs5.2 (fun c hc e=>by injection e with e;omega)).mono (fun c hc _=>by omega),HP4.o.via (F4.o.1.env HW.o hb) (F5.o.1.env HW.o hb),F5.o.1.env HW.o hb⟩)
 clear hs5 F4 V4 X4 Hk4 HP4;go_wp2_with fail;refine Gd [107,108,109,110,111,112,113,999,114,998]
  (fun ix v W=>match ix with|0=>v=.pointer (some ⟨fb,fo,none⟩)|1=>v=.pointer (some ⟨fb,fo,none⟩)|2=>v=.pointer (some ⟨fb,fo,none⟩)|3=>v=(g.tag:Int)|4=>v=(BX,3)|5=>v=.slice A7 1 c7|6=>v=(w,1,2)|8=>v=(w,1,3)|_=>True)
  (fun L U W=>Qdn w0 w b (w.heap.size+1) BX p t4 b4 g y (.pointer (some ⟨fb,fo,none⟩)) (.slice A7 1 c7) (if L 7=true then (g.tag:Int)else .int .i64 0) (if L 9=true then .slice A7 1 c7 else .slice none 0 0) W) (by simpa using U5.o.drew) ?_ ?_
 ·repeat (first|exact Ai.nil|(refine Ai.cons ?_ ?_;rotate_left))
  all_goals
   rintro L U W hL hpre HR Hdep K hK;have hU:=HR.o;have m3:=hU.xr 3 _ rfl;simp only[ao]at m3;have fb0:W.cell? ⟨fb,fo,none⟩=(g.tag:Int):=by obtain⟨a1,a2,a3,_,a5⟩:=hU.p;injection a3 with a3;injection a3 with a3;injection a3 with a3 a4;subst a3 a4;simpa using Ac a5 0 rfl
   first|(simp[Region.binds]at hpre;done)|simp[Region.binds]at hpre|clear hpre
  iterate 7
   ·exact ii
  ·have q2:=hU.v.c2;have qf:=hU.v.bk.live 2;have ql:=hU.v.lt;have hst:=hU.put (g.tag:Int) (hU.v.set2 _) hb0 aI aI hww;exact mP
  ·exact ii
  ·have q3:=hU.v.c3;have qf:=hU.v.bk.live 3;have ql:=hU.v.lt;have hst:=hU.put (.slice A7 1 c7) (hU.v.set3 _) hb0 aI aI hww;exact mP
 rintro L U W hL hφ hR;clear hφ;have hU:=hR;simp only[hL 7 aL,hL 9 aL,if_true]at hU;have U6:=Aa hU;have d0:=hU.v.c0;have d1:=hU.v.c1;have d2:=hU.v.c2;have d3:=hU.v.c3;clear hL hR hU;go_wp2_with ((with_reducible refine Af (op:=⟨none,.store 47 _ _,_,_,_,none⟩) rfl 47 _ _ rfl w 0 [.int .u8 85,aa,(g.tag:Int),.slice A7 1 c7] ?_ ?_ ?_ ?_ ?_ ?_);rfl;rfl;(exact U6.o.f.2.1);kernel_rfl;(simp[Value.oneCell']);intro w9 HS9)
 have Z:=Q4.fin (v:=.mk 85 [] g.tag [y]) (sl:=.slice A7 1 c7) U6.o.f hb0 HS9.o (U6.o.k.mono fun c hc _=>by omega);have hpv:(Ba (.mk 85 [] g.tag [y])).length=(Ba (Df (g,y))).length+2:=by rw[Th];simp
 have hn3':(Ba (Df (g,y))).length+t2.length<=t1.length+8*N:=hn3;exact aG (v:=.agg (Jx (.mk 85 [] g.tag [y]) (.slice A7 1 c7)).toArray) (Bh results145 _ _ w.heap.size _ _ rfl Z.2.2 underlying47 rfl aP) rfl ⟨.mk 85 [] g.tag [y],_,t4,rfl,Z.1,by rw[HQ4.o];cases b4<;>exact Z.2.1,by rw[HQ4.o];cases b4<;>simp,.mk aI (by simp only[Jn]at hn3';simp[Dh];omega) aN (fun z hz=>by rw[ar]at hz;subst hz;exact HBy.o),by omega,by omega⟩
end
end Go.Proofs.YtpjijpcemejlnaaGreatDoor
