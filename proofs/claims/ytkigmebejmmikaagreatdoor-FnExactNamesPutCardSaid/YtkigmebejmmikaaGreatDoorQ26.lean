/- Texts joined. Conditions: as each theorem names them. -/
import Derived.Test.YtkigmebejmmikaaGreatDoorQ24
import Derived.Test.YtkigmebejmmikaaGreatDoorQ25
set_option maxRecDepth 100000
set_option maxHeartbeats 32000000
set_option linter.unusedVariables false
set_option linter.unusedSimpArgs false
namespace Go.Proofs.YtkigmebejmmikaaGreatDoor
open Go.RowKit Go.Proofs.Tryz
section
attribute [local go_sem] Qja Qit Qib Qgw ByteArray.mk_append_mk
theorem Qfr(w0:World)(b N:Nat)(p:Value)(XS:List PT)(hsc:Qn w0 p XS)(hS:P5 (Ag XS))(x:PT)(hx:Qv w0 x)(h2:x.ty.sort=82)(t:List UInt8)(w:World)(hw:Below w0.heap.size w0 w)(hb:w0.heap.size<=b)(h:Fs w b p t false)(hl:t.length<=900)(hN:t.length<=N)(hN2:N<=2000)
  (htg:∀f∈x.ty.fields,f.tag<=200) (hfk:∀f∈x.ty.fields,Co f.kind/\Cb (Ag XS) f.kind/\f.given.length<=1000) (H:∀f∈x.ty.fields,IvC w0 b p (Ag XS) N f.kind)
  (HG:∀f∈x.ty.fields,∀s v r,Ai (Ag XS) 1000 N f.kind s=some (v,r)->s=Az v++r) (q:Option (Vl × List UInt8)) (hq:q=Jl (Ag XS) (Ai (Ag XS) 1000 N) x.ty t):
  Calls prog 100 #[.pointer (some ⟨b,0,none⟩),.pointer (some ⟨x.blk,0,none⟩)] w (J2 w b p t (N+1) q):=by
 have HQ:=Aa (hq.trans (by unfold Jl;rw[if_neg (by rw[h2];decide),if_neg (by rw[h2];decide)]))
 have Hsc:=Aa hsc
 have HSo:=Aa hS
 have Hfk:=Aa hfk
 have HG:=Aa HG
 obtain⟨pb,_,_,_,rfl,_⟩:=hsc
 have HS:=Aa h
 have HW:=Aa hw
 have hb0:=h.1
 have hx0:=hx.1
 have hww:=hw.size
 have x0:=(hw.cell (p:=⟨x.blk,0,none⟩) hx0).trans hx.2.2.1
 have hxw:x.blk<w.heap.size:=by omega
 have hxn:¬(x.blk=w.heap.size):=by omega
 have hxn2:¬(x.blk=w.heap.size+1):=by omega
 rw[h2]at x0
 have x0':w.cell? ⟨x.blk,0,none⟩=some (.int .u8 82):=x0
 clear x0
 generalize hSS:Ag XS=S at *
 have HSS:=Aa hSS
 have hm:=Ea 123 t false
 have Hwt:=Aa (fun W (h:Fs W b (.pointer (some ⟨pb,0,none⟩)) t false)=>C0 b _ t [123] false W h (by omega))
 obtain⟨t1,ht1⟩:∃t1,t1=(Ax [123] t false).getD t:=⟨_,rfl⟩
 obtain⟨b1,hb1⟩:∃b1,b1=(Ax [123] t false).isNone:=⟨_,rfl⟩
 have Ht1:=Aa ht1
 have Hb1:=Aa hb1
 rw[<-ht1]at hm
 rw[<-ht1,<-hb1]at Hwt
 have Htk:=Aa (fun W (h:Fs W b (.pointer (some ⟨pb,0,none⟩)) t1 b1)=>Jb b _ t1 [125] b1 W h (by omega))
 have Hfd:=Aa (fun W tt (h1:Below w0.heap.size w0 W) (h2:Fs W b (.pointer (some ⟨pb,0,none⟩)) tt false) (h3:tt.length<=t1.length)=>Qaq w0 b N _ S x hx tt W h1 hb false h2 (by omega) (fun _=>by omega) hN2 htg H (Cr (Ai S 1000 N) x.ty.fields tt) rfl)
 clear ht1 hb1 h hw hq h2 H hSS hfk hS
 go_enter func100,ntmps100
 go_wp2_with fail
 have F1:=Aa ((Nx.init HS.o (T:=42)).post ((As _ _).alloc (Ap _) (.cells #[.int .u8 82,.string ⟨#[]⟩,.int .i64 0,.slice none 0 0] 42)))
 have K1:=Aa (show Tt (w.heap.size+1+1) (w.heap.size+1) ((w.alloc (.cells #[.int .u8 0,.string ⟨#[]⟩,.int .i64 0,.slice none 0 0] 42)).alloc (.cells #[.int .u8 82,.string ⟨#[]⟩,.int .i64 0,.slice none 0 0] 42)) (.int .u8 82) (.string ⟨#[]⟩) (.int .i64 0) (.slice none 0 0) (.slice none 0 0) []from by
  have hv:=Vb.new (w:=w.alloc (.cells #[.int .u8 0,.string ⟨#[]⟩,.int .i64 0,.slice none 0 0] 42)) (h0:=.int .u8 82) (h1:=.string ⟨#[]⟩) (h2:=.int .i64 0) (h3:=.slice none 0 0) (T:=42)
  simp at hv
  exact⟨by simp,by simp,by omega,hv.bk,hv.c0,hv.c1,hv.c2,hv.c3,World.ownsRow_nil _ _ _ _,by simp⟩)
 refine(Hwt.o _ F1.o.1.1).mono ?_
 rintro e w2 ⟨rfl,hs2⟩
 have F2:=Aa (F1.o.step hb0 hs2)
 have K2:=Aa (K1.o.step hs2.2 (by omega) (by omega))
 clear hs2 F1 K1
 go_wp2_with fail
 refine(Htk.o _ F2.o.1.1).mono ?_
 rcases hy:Ax [125] t1 b1 with _|r
 ·have Hy:=Aa hy
  clear hy
  rintro e W3 ⟨rfl,hs3⟩
  simp only[Option.getD_none]at hs3
  have F3:=Aa (F2.o.step hb0 hs3)
  have K3:=Aa (K2.o.step hs3.2 (by omega) (by omega))
  clear hs3 F2 K2
  go_wp2_with fail
  go_loopw [8] (fun i wr=>∃(ps:List (Fd × Vl)) (xs:List (Vl × Value)) (A:Option Addr) (n c last:Nat) (tt:List UInt8),i=.int .i64 (last:Int)/\tt.length<=t1.length/\wr.cell? ⟨b,1,none⟩=some (.string ⟨tt.toArray⟩)/\Hid (Av xs=ps.map Dg)/\Hid (Nx w b (.pointer (some ⟨pb,0,none⟩)) w.heap.size tt b1 wr) /\
    Hid (Tt (w.heap.size+1+1) (w.heap.size+1) wr (.int .u8 82) (.string ⟨#[]⟩) (.int .i64 0) (.slice A n c) (.slice A n c) xs)/\Hid (RI S (Ai S 1000 N) x.ty.fields t1 b1 ps last tt))
   (fun _ wr=>match wr.cell? ⟨b,1,none⟩with|some (.string s)=>s.size|_=>0)
  case atStart=>exact⟨[],[],none,0,0,0,t1,rfl,Ap _,F3.o.1.1.2.2.2.1,rfl,F3.o,K3.o,RI.init⟩
  case round=>
   obtain⟨ps,xs,A,n,c,last,tt,rfl,htl,c1,Hvs,F,K,hI⟩:=hrel
   have s2:=F.o.1.1.2.2.2.2
   have hlo:=hI.o.lo
   have hhi:=hI.o.hi
   have hxl:xs.length<=ps.length:=by have:=congrArg List.length Hvs.o;simp[Av]at this;omega
   cases b1 with
   |true=>
    have E:=hI.o.bad (N:=N)
    rw[<-Hvs.o]at E
    go_wp2_with fail
    have hn7:n=xs.length:=Kj K.o.row
    subst hn7
    have Hw9:=Aa (fun W (h:Fs W b (.pointer (some ⟨pb,0,none⟩)) tt true)=>C0 b _ tt [125] true W h (by omega))
    refine(Hw9.o _ F.o.1.1).mono ?_
    rintro e W7 ⟨rfl,hs7⟩
    have F7:=Aa (F.o.step hb0 hs7)
    have K7:=Aa (K.o.step hs7.2 (by omega) (by omega))
    have hfin:=Aa (HQ.o.trans (E.fin Ht1.o Hb1.o Hy.o))
    have hle9:=Ea 125 tt true
    obtain⟨_,_,_,hE9,hB9,hL9⟩:=E
    generalize (Ax [125] tt true).getD tt=t4 at *
    generalize (Ax [125] tt true).isNone=b4 at *
    have HB9:=Aa hB9
    have hyl:(xs).length<=1000:=by simp[Av]at hL9 ⊢;omega
    have d0:=K7.o.c0
    have d1:=K7.o.c1
    have d2:=K7.o.c2
    have d3:=K7.o.c3
    clear hs7 hB9
    go_wp2_with ((with_reducible refine Ad (op:=⟨none,.store 42 _ _,_,_,_,none⟩) rfl 42 _ _ rfl w.heap.size 0 [.int .u8 82,.string ⟨#[]⟩,.int .i64 0,.slice A xs.length c] ?_ ?_ ?_ ?_ ?_ ?_);rfl;rfl;(exact F7.o.2.1);kernel_rfl;(simp[Value.oneCell']);intro w9 HS9)
    have Z:=Nx.fin (v:=.mk 82 [] 0 (Av xs)) (sl:=.slice A xs.length c) F7.o hb0 HS9.o ((K7.o.done hyl).mono fun c hc _=>by omega)
    exact bodyPost_ret (v:=.agg (G6 (.mk 82 [] 0 (Av xs)) (.slice A xs.length c)).toArray) (Ay results100 _ _ w.heap.size _ _ rfl Z.2.2 underlying42 rfl (by kernel_rfl)) rfl ⟨.mk 82 [] 0 (Av xs),_,t4,rfl,Z.1,by rw[hfin.o];cases b4<;>exact Z.2.1,by rw[hfin.o];cases b4<;>simp,.mk (by decide) (by omega) (by simp) HB9.o,by omega,by rw[D5];simp[E8,Bb];omega⟩
   |false=>
    go_wp2_with fail
    refine(Hfd.o _ tt (F.o.1.env HW.o hb) F.o.1.1 htl).mono ?_
    rintro e w4 ⟨v,sl,fp,t',rfl,hk4,hs4,hB4,hl4,hn4,hcase⟩
    obtain⟨A7,c7,rfl⟩:=hk4.form
    have F4:=Aa (F.o.step hb0 hs4)
    have K4:=Aa (K.o.step hs4.2 (by omega) (by omega))
    have Hk4:=Aa hk4
    have hz4:wr.heap.size<=w4.heap.size:=hs4.2.size
    have hKb:=K.o.bs
    clear hs4 hk4 c1 s2
    unfold G1
    rcases hcase with⟨rfl,hq1⟩|⟨g,y,hfp,rfl,hfg,hBy,hy⟩
    ·have E:=hI.o.stop (N:=N) (t':=t') (by rw[hq1];simp) hl4
     rw[<-Hvs.o]at E
     clear hq1 hB4
     go_wp2_with fail
     have F5:=Aa (F4.o.post ((As w4.heap.size w4).alloc (Ap _) (.cells #[.int .u8 (v.what.toNat:Int),.string ⟨v.text.toArray⟩,.int .i64 (v.tag:Int),.slice A7 v.kids.length c7] 42)))
     have K5:=Aa (K4.o.after ((As w4.heap.size w4).alloc (Ap _) (.cells #[.int .u8 (v.what.toNat:Int),.string ⟨v.text.toArray⟩,.int .i64 (v.tag:Int),.slice A7 v.kids.length c7] 42)))
     obtain⟨W5,hW5⟩:∃W5,W5=w4.alloc (.cells #[.int .u8 (v.what.toNat:Int),.string ⟨v.text.toArray⟩,.int .i64 (v.tag:Int),.slice A7 v.kids.length c7] 42):=⟨_,rfl⟩
     rw[<-hW5]at F5 K5 ⊢
     clear hW5
     have sb:=F5.o.1.1.2.1.live 2
     have s0:=F5.o.1.1.1
     have s2:=F5.o.1.1.2.2.2.2
     go_quiet (fail)
     go_wp2_with fail
     have F6:=Aa (F5.o.post (below_drewN (As _ _) nq))
     have F6:=Aa (F6.o.step hb0 ⟨F6.o.1.1.setBad true,Bc _ b 2 (.bool true)⟩)
     have K6:=Aa ((K5.o.after (below_drewN (As _ _) nq)).step (Bc _ b 2 (.bool true)) (by omega) (by omega))
     clear sb s0 s2
     have hn7:n=xs.length:=Kj K.o.row
     subst hn7
     have Hw9:=Aa (fun W (h:Fs W b (.pointer (some ⟨pb,0,none⟩)) t' true)=>C0 b _ t' [125] true W h (by omega))
     refine(Hw9.o _ F6.o.1.1).mono ?_
     rintro e W7 ⟨rfl,hs7⟩
     have F7:=Aa (F6.o.step hb0 hs7)
     have K7:=Aa (K6.o.step hs7.2 (by omega) (by omega))
     have hfin:=Aa (HQ.o.trans (E.fin Ht1.o Hb1.o Hy.o))
     have hle9:=Ea 125 t' true
     obtain⟨_,_,_,hE9,hB9,hL9⟩:=E
     generalize (Ax [125] t' true).getD t'=t4 at *
     generalize (Ax [125] t' true).isNone=b4 at *
     have HB9:=Aa hB9
     have hyl:(xs).length<=1000:=by simp[Av]at hL9 ⊢;omega
     have d0:=K7.o.c0
     have d1:=K7.o.c1
     have d2:=K7.o.c2
     have d3:=K7.o.c3
     clear hs7 hB9
     go_wp2_with ((with_reducible refine Ad (op:=⟨none,.store 42 _ _,_,_,_,none⟩) rfl 42 _ _ rfl w.heap.size 0 [.int .u8 82,.string ⟨#[]⟩,.int .i64 0,.slice A xs.length c] ?_ ?_ ?_ ?_ ?_ ?_);rfl;rfl;(exact F7.o.2.1);kernel_rfl;(simp[Value.oneCell']);intro w9 HS9)
     have Z:=Nx.fin (v:=.mk 82 [] 0 (Av xs)) (sl:=.slice A xs.length c) F7.o hb0 HS9.o ((K7.o.done hyl).mono fun c hc _=>by omega)
     exact bodyPost_ret (v:=.agg (G6 (.mk 82 [] 0 (Av xs)) (.slice A xs.length c)).toArray) (Ay results100 _ _ w.heap.size _ _ rfl Z.2.2 underlying42 rfl (by kernel_rfl)) rfl ⟨.mk 82 [] 0 (Av xs),_,t4,rfl,Z.1,by rw[hfin.o];cases b4<;>exact Z.2.1,by rw[hfin.o];cases b4<;>simp,.mk (by decide) (by omega) (by simp) HB9.o,by omega,by rw[D5];simp[E8,Bb];omega⟩
    obtain⟨fb,fo,rfl,hfb,hfr⟩:=hfp
    have HP4:=Aa (show H5 w0.heap.size w4 (.pointer (some ⟨fb,fo,none⟩)) (some g)from⟨fb,fo,rfl,hfb,hfr⟩)
    have hgm:=(Bk hfg).2
    have hg2:=htg g hgm
    obtain⟨hkd,hrf,hgl⟩:=Hfk.o g hgm
    have HGg:=Aa (HG.o g hgm)
    have HBy:=Aa hBy
    have HBf:=Aa hB4
    have Hy2:=Aa hy
    have hn4':(Az (Dg (g,y))).length+t'.length<=tt.length+8*N:=hn4
    simp only[Dg,Vl.what,Vl.text,Vl.tag,Vl.kids,List.length_singleton]at Hk4 ⊢
    clear hfr hBy hB4 hy hn4
    go_wp2_with fail
    obtain⟨W5,hW5⟩:∃W5,W5=w4.alloc (.cells #[.int .u8 61,.string ⟨#[]⟩,.int .i64 (g.tag:Int),.slice A7 1 c7] 42):=⟨_,rfl⟩
    have hb5:Below w4.heap.size w4 W5:=by rw[hW5];exact(As _ _).alloc (Ap _) _
    have X5:=Aa (show W5.rangeAt w4.heap.size 0 [.int .u8 61,.string ⟨#[]⟩,.int .i64 (g.tag:Int),.slice A7 1 c7]from by rw[hW5];exact Ck w4 [.int .u8 61,.string ⟨#[]⟩,.int .i64 (g.tag:Int),.slice A7 1 c7] _)
    have hz5:w4.heap.size<W5.heap.size:=by rw[hW5];simp
    have F5:=Aa (F4.o.post hb5)
    have K5:=Aa (K4.o.after hb5)
    have Hk5:=Aa (Hk4.o.after hb5)
    have HW5:=Aa (F5.o.1.env HW.o hb)
    have HP5:=Aa (HP4.o.via (F4.o.1.env HW.o hb) HW5.o)
    have G5:=Aa (show W5.rangeAt fb fo (Qs g)from by obtain⟨a1,a2,a3,_,a5⟩:=HP5.o;injection a3 with a3;injection a3 with a3;injection a3 with a3 a4;subst a3 a4;exact a5)
    have D0:W5.cell? ⟨fb,fo,none⟩=some (.int .i64 (g.tag:Int)):=by simpa using Ac G5.o 0 rfl
    rw[<-hW5]
    have hfb5:fb<W5.heap.size:=by have:=HW5.o.size;omega
    obtain⟨BX,hBX⟩:∃BX,BX=w4.heap.size:=⟨_,rfl⟩
    rw[<-hBX]at X5 hz5 hb5 hz4 ⊢
    clear hW5 F4 K4 Hk4 HP4 hb5 hBX
    have sb:=F5.o.1.1.2.1.live 2
    have s0:=F5.o.1.1.1
    have s2:=F5.o.1.1.2.2.2.2
    by_cases hlt:g.tag<=last
    ·have E:=hI.o.stop (N:=N) (t':=t') (fun z hz=>.inl (by rw[Hy2.o z hz];exact hlt)) hl4
     rw[<-Hvs.o]at E
     have tl:decide ((g.tag:Int)<=(last:Int))=true:=decide_eq_true (by omega)
     go_quiet (fail)
     go_wp2_with fail
     have F6:=Aa (F5.o.post (below_drewN (As _ _) nq))
     have F6:=Aa (F6.o.step hb0 ⟨F6.o.1.1.setBad true,Bc _ b 2 (.bool true)⟩)
     have K6:=Aa ((K5.o.after (below_drewN (As _ _) nq)).step (Bc _ b 2 (.bool true)) (by omega) (by omega))
     clear sb s0 s2 D0
     have hn7:n=xs.length:=Kj K.o.row
     subst hn7
     have Hw9:=Aa (fun W (h:Fs W b (.pointer (some ⟨pb,0,none⟩)) t' true)=>C0 b _ t' [125] true W h (by omega))
     refine(Hw9.o _ F6.o.1.1).mono ?_
     rintro e W7 ⟨rfl,hs7⟩
     have F7:=Aa (F6.o.step hb0 hs7)
     have K7:=Aa (K6.o.step hs7.2 (by omega) (by omega))
     have hfin:=Aa (HQ.o.trans (E.fin Ht1.o Hb1.o Hy.o))
     have hle9:=Ea 125 t' true
     obtain⟨_,_,_,hE9,hB9,hL9⟩:=E
     generalize (Ax [125] t' true).getD t'=t4 at *
     generalize (Ax [125] t' true).isNone=b4 at *
     have HB9:=Aa hB9
     have hyl:(xs).length<=1000:=by simp[Av]at hL9 ⊢;omega
     have d0:=K7.o.c0
     have d1:=K7.o.c1
     have d2:=K7.o.c2
     have d3:=K7.o.c3
     clear hs7 hB9
     go_wp2_with ((with_reducible refine Ad (op:=⟨none,.store 42 _ _,_,_,_,none⟩) rfl 42 _ _ rfl w.heap.size 0 [.int .u8 82,.string ⟨#[]⟩,.int .i64 0,.slice A xs.length c] ?_ ?_ ?_ ?_ ?_ ?_);rfl;rfl;(exact F7.o.2.1);kernel_rfl;(simp[Value.oneCell']);intro w9 HS9)
     have Z:=Nx.fin (v:=.mk 82 [] 0 (Av xs)) (sl:=.slice A xs.length c) F7.o hb0 HS9.o ((K7.o.done hyl).mono fun c hc _=>by omega)
     exact bodyPost_ret (v:=.agg (G6 (.mk 82 [] 0 (Av xs)) (.slice A xs.length c)).toArray) (Ay results100 _ _ w.heap.size _ _ rfl Z.2.2 underlying42 rfl (by kernel_rfl)) rfl ⟨.mk 82 [] 0 (Av xs),_,t4,rfl,Z.1,by rw[hfin.o];cases b4<;>exact Z.2.1,by rw[hfin.o];cases b4<;>simp,.mk (by decide) (by omega) (by simp) HB9.o,by omega,by rw[D5];simp[E8,Bb];omega⟩
    have tl:decide ((g.tag:Int)<=(last:Int))=false:=decide_eq_false (by omega)
    obtain⟨ka,kc,kxs,ek,hkk,_,hkr,_,hkk2⟩:=Hk5.o
    obtain⟨⟨y',ys⟩,rfl⟩:∃a,kxs=[a]:=by
     cases kxs with
     |nil=>simp[Av]at hkk
     |cons a l=>cases l with
      |nil=>exact⟨a,rfl⟩
      |cons b l=>simp[Av]at hkk
    obtain rfl:y=y':=by simpa [Av]using hkk
    injection ek with e1 e2 e3
    subst e1 e3
    have hky:=hkk2 (y,ys) (by simp)
    obtain⟨A8,c8,e8⟩:=hky.form
    simp only at e8 hky
    subst e8
    obtain⟨kb,ko,rfl,hkb,q0,q1,q2,q3⟩:=D8.at_ hkr (show 0<1 by decide)
    simp only[List.getElem_cons_zero,Nat.zero_mul,Nat.add_zero]at q0 q1 q2 q3
    have Hky:=Aa hky
    have Q0:=Aa q0
    have Q1:=Aa q1
    have Q2:=Aa q2
    have Q3:=Aa q3
    have DD:=Aa D0
    have SP:=Aa F5.o.1.1.2.2.1
    have HPr:=Aa (fun W (h:Below W5.heap.size W5 W)=>Ts _ HBy.o (.slice A8 y.kids.length c8) W (Hky.o.after h))
    have HOf:=Aa (fun W (h:Below W5.heap.size W5 W)=>Qh4 (.pointer (some ⟨pb,0,none⟩)) XS (by rw[HSS.o];exact HSo.o) g fb fo W (Hsc.o.below (HW5.o.trans (h.mono HW5.o.size))) (Ar G5.o hfb5 h) hkd (by rw[HSS.o];exact hrf) hgl)
    simp only[HSS.o]at HOf
    have HV:=Aa (rfl:Az y=Az y)
    generalize hpy:Az y=py at *
    generalize hpo:Re S g=po at *
    have Hpy:=Aa hpy
    have Hpo:=Aa hpo
    unfold G1 at HPr
    clear q0 q1 q2 q3 hkk2 hky hkr hkk e2 D0 s2 hpy hpo HV
    refine P3 [36,37,38,39,40,41,42,43,44,45,46,47,48,49,50,51,52,53,54,55,56,57,58,59]
     (fun ix v W=>match ix with|0=>v=.pointer (some ⟨fb,fo,none⟩)|1=>v=.bool false|2=>v=.bool false|3=>v=.pointer (some ⟨fb,fo,none⟩)|4=>v=.pointer (some ⟨fb,fo,none⟩)|5=>v=.pointer (some ⟨fb,fo,none⟩)|6=>v=.int .i64 (g.tag:Int)|7=>v=.int .i64 (last:Int)|8=>v=.bool false|9=>v=.bool false|10=>v=.bool false|11=>v=.pointer (some ⟨BX,3,none⟩)|12=>v=.slice (some ⟨kb,ko,none⟩) 1 c7|13=>v=.pointer (some ⟨kb,ko,none⟩)|14=>v=.agg #[.int .u8 (y.what.toNat:Int),.string ⟨y.text.toArray⟩,.int .i64 (y.tag:Int),.slice A8 y.kids.length c8]|15=>v=.string ⟨py.toArray⟩|16=>v=.pointer (some ⟨b,0,none⟩)|17=>v=.pointer (some ⟨b,0,none⟩)|18=>v=.pointer (some ⟨b,0,none⟩)|19=>v=.pointer (some ⟨pb,0,none⟩)|20=>v=.pointer (some ⟨fb,fo,none⟩)|21=>v=.string ⟨po.toArray⟩|22=>v=.bool (py == po)|23=>v=.bool (py == po)|_=>True)
     (fun L U W=>Below W5.heap.size W5 W) ((As _ _).drew) ?_ ?_
    ·repeat (first|exact Aq.nil|(refine Aq.cons ?_ ?_;rotate_left))
     all_goals
      rintro L U W hL hpre HR Hdep K hK
      have hB:=HR.o
      have m0:W.cell? ⟨fb,fo,none⟩=some (.int .i64 (g.tag:Int)):=(hB.cell (p:=⟨fb,fo,none⟩) hfb5).trans DD.o
      have m3:W.cell? ⟨BX,3,none⟩=some (.slice (some ⟨kb,ko,none⟩) 1 c7):=(hB.cell (p:=⟨BX,3,none⟩) hz5).trans (X5.o 3 _ rfl)
      have y0:=(hB.cell (p:=⟨kb,ko,none⟩) hkb).trans Q0.o
      have y1:=(hB.cell (p:=⟨kb,ko+1,none⟩) hkb).trans Q1.o
      have y2:=(hB.cell (p:=⟨kb,ko+2,none⟩) hkb).trans Q2.o
      have y3:=(hB.cell (p:=⟨kb,ko+3,none⟩) hkb).trans Q3.o
      have p0:W.cell? ⟨b,0,none⟩=some (.pointer (some ⟨pb,0,none⟩)):=(hB.cell (p:=⟨b,0,none⟩) s0).trans SP.o
      first|(simp[Region.binds]at hpre;done)|simp[Region.binds]at hpre|clear hpre
     iterate 15
      ·go_simp
       first|exact hK _ _ _ rfl Ab HR.o rfl|exact kE hK HR.o|exact hK undef _ _ Ab Ab HR.o (by simp[Act.put,hpre])|exact hK _ _ _ Ab Ab HR.o rfl|exact kE hK HR.o
     ·go_simp
      refine(HPr.o W hB).mono ?_
      rintro e w5 ⟨rfl,hb5⟩
      exact hK _ _ _ rfl Ab (hB.trans (hb5.mono hB.size)) (by simp[Act.put,hpre])
     iterate 5
      ·go_simp
       first|exact hK _ _ _ rfl Ab HR.o rfl|exact kE hK HR.o|exact hK undef _ _ Ab Ab HR.o (by simp[Act.put,hpre])|exact hK _ _ _ Ab Ab HR.o rfl|exact kE hK HR.o
     ·go_simp
      refine(HOf.o W hB).mono ?_
      rintro e w5 ⟨rfl,hb5⟩
      exact hK _ _ _ rfl Ab (hB.trans (hb5.mono hB.size)) (by simp[Act.put,hpre])
     iterate 2
      ·go_simp
       first|exact hK _ _ _ rfl Ab HR.o rfl|exact kE hK HR.o|exact hK undef _ _ Ab Ab HR.o (by simp[Act.put,hpre])|exact hK _ _ _ Ab Ab HR.o rfl|exact kE hK HR.o
    rintro L U W hL hφ hR
    have e23:U 23=.bool (py == po):=hφ 23 (by decide)
    simp only[e23]
    clear hφ
    have hB6:=Aa hR
    have F6:=Aa (F5.o.post hR)
    have K6:=Aa (K5.o.after hR)
    have X6:=Aa (Ar X5.o hz5 hR)
    have Hk6:=Aa (Hk5.o.after hR)
    have D6:W.cell? ⟨fb,fo,none⟩=some (.int .i64 (g.tag:Int)):=(hR.cell (p:=⟨fb,fo,none⟩) hfb5).trans DD.o
    have hzW:=hR.size
    clear hL hR
    by_cases heq:py=po
    ·have te:(py == po)=true:=by simp[heq]
     have E:=hI.o.stop (N:=N) (t':=t') (fun z hz=>.inr (by rw[Hy2.o z hz];exact Hpy.o.trans (heq.trans Hpo.o.symm))) hl4
     rw[<-Hvs.o]at E
     have sb:=F6.o.1.1.2.1.live 2
     have s0:=F6.o.1.1.1
     have s2:=F6.o.1.1.2.2.2.2
     clear heq
     rw[te]
     go_wp2_with fail
     have F7:=Aa (F6.o.step hb0 ⟨F6.o.1.1.setBad true,Bc _ b 2 (.bool true)⟩)
     have K7:=Aa (K6.o.step (Bc _ b 2 (.bool true)) (by omega) (by omega))
     clear sb s0 s2
     have hn7:n=xs.length:=Kj K.o.row
     subst hn7
     have Hw9:=Aa (fun W (h:Fs W b (.pointer (some ⟨pb,0,none⟩)) t' true)=>C0 b _ t' [125] true W h (by omega))
     refine(Hw9.o _ F7.o.1.1).mono ?_
     rintro e W7 ⟨rfl,hs7⟩
     have F7:=Aa (F7.o.step hb0 hs7)
     have K7:=Aa (K7.o.step hs7.2 (by omega) (by omega))
     have hfin:=Aa (HQ.o.trans (E.fin Ht1.o Hb1.o Hy.o))
     have hle9:=Ea 125 t' true
     obtain⟨_,_,_,hE9,hB9,hL9⟩:=E
     generalize (Ax [125] t' true).getD t'=t4 at *
     generalize (Ax [125] t' true).isNone=b4 at *
     have HB9:=Aa hB9
     have hyl:(xs).length<=1000:=by simp[Av]at hL9 ⊢;omega
     have d0:=K7.o.c0
     have d1:=K7.o.c1
     have d2:=K7.o.c2
     have d3:=K7.o.c3
     clear hs7 hB9
     go_wp2_with ((with_reducible refine Ad (op:=⟨none,.store 42 _ _,_,_,_,none⟩) rfl 42 _ _ rfl w.heap.size 0 [.int .u8 82,.string ⟨#[]⟩,.int .i64 0,.slice A xs.length c] ?_ ?_ ?_ ?_ ?_ ?_);rfl;rfl;(exact F7.o.2.1);kernel_rfl;(simp[Value.oneCell']);intro w9 HS9)
     have Z:=Nx.fin (v:=.mk 82 [] 0 (Av xs)) (sl:=.slice A xs.length c) F7.o hb0 HS9.o ((K7.o.done hyl).mono fun c hc _=>by omega)
     exact bodyPost_ret (v:=.agg (G6 (.mk 82 [] 0 (Av xs)) (.slice A xs.length c)).toArray) (Ay results100 _ _ w.heap.size _ _ rfl Z.2.2 underlying42 rfl (by kernel_rfl)) rfl ⟨.mk 82 [] 0 (Av xs),_,t4,rfl,Z.1,by rw[hfin.o];cases b4<;>exact Z.2.1,by rw[hfin.o];cases b4<;>simp,.mk (by decide) (by omega) (by simp) HB9.o,by omega,by rw[D5];simp[E8,Bb];omega⟩
    have te:(py == po)=false:=by simpa using heq
    have hne:Az y≠Re S g:=by rw[Hpy.o,Hpo.o];exact heq
    have Hne:=Aa hne
    clear heq hne
    rw[te]
    have Hk6r:=Aa (Hk6.o.mono (Q:=fun d=>w.heap.size+1+1<=d/\(Value.slice A n c).ownBlock≠some d) (fun d hd _=>⟨by omega,fun e=>by have:=(K.o.row.lt d e).2;omega⟩))
    have kc3:=K6.o.c3
    have x60:=X6.o 0 _ rfl
    have x61:=X6.o 1 _ rfl
    have x62:=X6.o 2 _ rfl
    have x63:=X6.o 3 _ rfl
    simp only[Nat.zero_add]at x60 x61 x62 x63
    have hn7:=Kj K6.o.row
    subst hn7
    go_wp2_with (at_builtin;refine Yi W rfl _ _ 40 rfl (w.heap.size+1+1) 42 (.agg #[.int .u8 0,.string ⟨#[]⟩,.int .i64 0,.slice none 0 0]) 4 56 underlying40 Qck rfl (by decide) (Jk (Dg (g,y),.slice (some ⟨kb,ko,none⟩) 1 c7)) rfl (Qco _ rfl) (.slice A xs.length c) xs.length (xs.flatMap Jk) rfl rfl K6.o.row (by unfold maxLen;omega) (by omega) K6.o.bs ?_;intro v7 w9 hown9 hg9 hwh9;have Hown9:=Aa hown9;have Hg9:=Aa hg9;have Hwh9:=Aa hwh9;obtain⟨A9,n9,c9,rfl⟩:=H8 hown9;clear hown9 hg9 hwh9;have K9:=Aa (K6.o.app (x:=(Dg (g,y),.slice (some ⟨kb,ko,none⟩) 1 c7)) Hk6r.o Hown9.o Hg9.o Hwh9.o);have F9:=Aa (F6.o.app hb0 Hg9.o (fun k e=>by have:=(K6.o.row.lt k e).1;omega));have z3:=K9.o.c3;have zf:=K9.o.bk.live 3;have zl:=K9.o.lt)
    have K10:=Aa K9.o.store
    have F10:=Aa (F9.o.app hb0 (Bc w9 (w.heap.size+1) 3 (.slice A9 n9 c9)) (fun k e=>by injection e with e;omega))
    generalize w9.setCell ⟨w.heap.size+1,3,none⟩ (.slice A9 n9 c9)=w10 at *
    clear z3 zf zl kc3 x60 x61 x62 x63 K9 F9
    have Htk5:=Aa (fun W (h:Fs W b (.pointer (some ⟨pb,0,none⟩)) t' (Cr (Ai S 1000 N) x.ty.fields tt).isNone)=>Jb b _ t' [44] (Cr (Ai S 1000 N) x.ty.fields tt).isNone W h (by omega))
    refine(Htk5.o _ F10.o.1.1).mono ?_
    rcases hc:Ax [44] t' (Cr (Ai S 1000 N) x.ty.fields tt).isNone with _|r
    ·have E:=hI.o.brk (N:=N) Hy2.o (by omega) Hne.o hc HBf.o hn4'
     clear hc
     rintro e W6 ⟨rfl,hs6⟩
     simp only[Option.getD_none]at hs6
     have F11:=Aa (F10.o.step hb0 hs6)
     have K11:=Aa (K10.o.step hs6.2 (by omega) (by omega))
     rw[<-Hvs.o]at E
     have E:RE S (Ai S 1000 N) x.ty.fields t1 false (Av (xs++[(Dg (g,y),.slice (some ⟨kb,ko,none⟩) 1 c7)])) t' (Cr (Ai S 1000 N) x.ty.fields tt).isNone N:=by simpa [Av]using E
     clear hs6
     go_wp2_with fail
     generalize xs++[(Dg (g,y),Value.slice (some ⟨kb,ko,none⟩) 1 c7)]=ys at *
     have hn7:n9=ys.length:=Kj K11.o.row
     subst hn7
     have Hw9:=Aa (fun W (h:Fs W b (.pointer (some ⟨pb,0,none⟩)) t' (Cr (Ai S 1000 N) x.ty.fields tt).isNone)=>C0 b _ t' [125] (Cr (Ai S 1000 N) x.ty.fields tt).isNone W h (by omega))
     refine(Hw9.o _ F11.o.1.1).mono ?_
     rintro e W7 ⟨rfl,hs7⟩
     have F7:=Aa (F11.o.step hb0 hs7)
     have K7:=Aa (K11.o.step hs7.2 (by omega) (by omega))
     have hfin:=Aa (HQ.o.trans (E.fin Ht1.o Hb1.o Hy.o))
     have hle9:=Ea 125 t' (Cr (Ai S 1000 N) x.ty.fields tt).isNone
     obtain⟨_,_,_,hE9,hB9,hL9⟩:=E
     generalize (Ax [125] t' (Cr (Ai S 1000 N) x.ty.fields tt).isNone).getD t'=t4 at *
     generalize (Ax [125] t' (Cr (Ai S 1000 N) x.ty.fields tt).isNone).isNone=b4 at *
     have HB9:=Aa hB9
     have hyl:(ys).length<=1000:=by simp[Av]at hL9 ⊢;omega
     have d0:=K7.o.c0
     have d1:=K7.o.c1
     have d2:=K7.o.c2
     have d3:=K7.o.c3
     clear hs7 hB9
     go_wp2_with ((with_reducible refine Ad (op:=⟨none,.store 42 _ _,_,_,_,none⟩) rfl 42 _ _ rfl w.heap.size 0 [.int .u8 82,.string ⟨#[]⟩,.int .i64 0,.slice A9 ys.length c9] ?_ ?_ ?_ ?_ ?_ ?_);rfl;rfl;(exact F7.o.2.1);kernel_rfl;(simp[Value.oneCell']);intro w9 HS9)
     have Z:=Nx.fin (v:=.mk 82 [] 0 (Av ys)) (sl:=.slice A9 ys.length c9) F7.o hb0 HS9.o ((K7.o.done hyl).mono fun c hc _=>by omega)
     exact bodyPost_ret (v:=.agg (G6 (.mk 82 [] 0 (Av ys)) (.slice A9 ys.length c9)).toArray) (Ay results100 _ _ w.heap.size _ _ rfl Z.2.2 underlying42 rfl (by kernel_rfl)) rfl ⟨.mk 82 [] 0 (Av ys),_,t4,rfl,Z.1,by rw[hfin.o];cases b4<;>exact Z.2.1,by rw[hfin.o];cases b4<;>simp,.mk (by decide) (by omega) (by simp) HB9.o,by omega,by rw[D5];simp[E8,Bb];omega⟩
    have hcl:=Jh hc
    rintro e W6 ⟨rfl,hs6⟩
    simp only[Option.getD_some]at hs6
    cases hk:Cr (Ai S 1000 N) x.ty.fields tt with
    |none=>rw[hk,B6]at hc;exact absurd hc (by simp)
    |some z=>
     have hz:=Hy2.o z hk
     subst hz
     have I6:=Aa (show RI S (Ai S 1000 N) x.ty.fields t1 false (ps++[(g,y)]) g.tag r from by
      have h44:Am 44 t'=some r:=by rw[hk,B6]at hc;simpa using hc
      have hl9:=(Pn (P:=fun _ _=>True) (fun f hf s v r h=>⟨Ab,HG.o f hf s v r h⟩) hk).2.2.2
      exact hI.o.step hk (by omega) Hne.o (by rw[hl9];simp) h44 HBf.o hg2)
     rw[hk]at hs6 F10
     have F11:=Aa (F10.o.step hb0 hs6)
     have K11:=Aa (K10.o.step hs6.2 (by omega) (by omega))
     have V11:=Aa (show Av (xs++[(Dg (g,y),.slice (some ⟨kb,ko,none⟩) 1 c7)])=(ps++[(g,y)]).map Dg from by have:=Hvs.o;simp[Av]at this ⊢;exact this)
     have c6:=F11.o.1.1.2.2.2.1
     have c1:=F.o.1.1.2.2.2.1
     clear hs6 hk hc
     go_wp2_with fail
     go_roundw
     case rel=>exact⟨ps++[(g,y)],xs++[(Dg (g,y),Value.slice (some ⟨kb,ko,none⟩) 1 c7)],A9,n9,c9,g.tag,r,rfl,by omega,c6,V11.o,F11.o,K11.o,I6.o⟩
     case measure=>simp[c1,c6,ByteArray.size];omega
 have Hy:=Aa hy
 have hlt:=Jh hy
 clear hy
 rintro e W3 ⟨rfl,hs3⟩
 simp only[Option.getD_some]at hs3
 have F3:=Aa (F2.o.step hb0 hs3)
 have K3:=Aa (K2.o.step hs3.2 (by omega) (by omega))
 clear hs3 F2 K2
 have d0:=K3.o.c0
 have d1:=K3.o.c1
 have d2:=K3.o.c2
 have d3:=K3.o.c3
 go_wp2_with ((with_reducible refine Ad (op:=⟨none,.store 42 _ _,_,_,_,none⟩) rfl 42 _ _ rfl w.heap.size 0 [.int .u8 82,.string ⟨#[]⟩,.int .i64 0,.slice none 0 0] ?_ ?_ ?_ ?_ ?_ ?_);rfl;rfl;(exact F3.o.2.1);kernel_rfl;(simp[Value.oneCell']);intro w9 HS9)
 have hq2:q=some (.mk 82 [] 0 [],r):=by
  have h1:=Ht1.o
  have h2:=Hb1.o
  have h3:=Hy.o
  rw[HQ.o]
  rw[B6]at h1 h2 h3
  simp only[Bool.false_eq_true,if_false]at h1 h2
  cases h9:Am 123 t with
  |none=>rw[h9]at h2;simp at h2;subst h2;simp at h3
  |some z=>
   rw[h9]at h1 h2
   simp at h1 h2
   subst h1 h2
   simp only[Bool.false_eq_true,if_false]at h3
   simp only[h3]
 have hb1':b1=false:=by cases b1;rfl;have:=Hy.o;rw[B6]at this;simp at this
 subst hb1'
 have Z:=Nx.fin (v:=.mk 82 [] 0 []) (sl:=.slice none 0 0) F3.o hb0 HS9.o (D8.nil _ _)
 exact bodyPost_ret (v:=.agg (G6 (.mk 82 [] 0 []) (.slice none 0 0)).toArray) (Ay results100 _ _ w.heap.size _ _ rfl Z.2.2 underlying42 rfl (by kernel_rfl)) rfl ⟨.mk 82 [] 0 [],_,r,rfl,Z.1,by rw[hq2];exact Z.2.1,by rw[hq2];simp,El (by decide) (by decide),by omega,by simp[Az,Dx,E8,Ak];omega⟩
end
end Go.Proofs.YtkigmebejmmikaaGreatDoor
