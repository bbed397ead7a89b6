/- Texts joined. Conditions: as each theorem names them. -/
import Derived.Sort.Walk0
import Derived.Test.YtkigmebejmmikaaGreatDoorV16
set_option maxRecDepth 100000
set_option maxHeartbeats 32000000
set_option linter.unusedVariables false
set_option linter.unusedSimpArgs false
namespace Go.Proofs.YtkigmebejmmikaaGreatDoor
open Go.RowKit Go.Proofs.Tryz
section
attribute [local go_sem] Qo1 Qof Qnv Qlx ByteArray.mk_append_mk
theorem Qlp(w0:World)(b N:Nat)(p:Value)(XS:List PT)(hsc:Q7 w0 p XS)(hS:Nv (Af XS))(x:PT)(hx:Sv w0 x)(h2:x.ty.sort=82)(t:List UInt8)(w:World)(hw:Below w0 w0 w)(hb:w0.heap.size<=b)(h:D9 w b p t false)(hl:t.length<=900)(hN:t.length<=N)(hN2:N<=2000)
  (htg:∀f∈x.ty.fields,f.tag<=200) (hfk:∀f∈x.ty.fields,Ch f.kind/\Ce (Af XS) f.kind/\f.given.length<=1000) (H:∀f∈x.ty.fields,IvC w0 b p (Af XS) N f.kind)
  (HG:∀f∈x.ty.fields,∀s v r,Ap (Af XS) 1000 N f.kind s=some (v,r)->s=Ay v++r) (q:Option (Vl × List UInt8)) (hq:q=Mc (Af XS) (Ap (Af XS) 1000 N) x.ty t):
  Calls prog 100 #[b,x.blk] w (M5 w b p t (N+1) q):=by
 have HQ:=Aa (hq.trans (by unfold Mc;rw[if_neg cj,if_neg cj]));have Hsc:=Aa hsc;have HSo:=Aa hS;have Hfk:=Aa hfk;have HG:=Aa HG;obtain⟨pb,_,_,_,rfl,_⟩:=hsc;have HS:=Aa h;have HW:=Aa hw;have hb0:=h.1;have hx0:=hx.1;have hww:=hw.size;have x0:=(hw.cell (p:=⟨x.blk,0,none⟩) hx0).trans hx.2.2.1;have hxw:x.blk<w.heap.size:=aG;have hxn:¬(x.blk=w.heap.size):=aG;have hxn2:¬(x.blk=w.heap.size+1):=aG;rw[h2]at x0;have x0':w.cell? (x.blk,0)=some (.int .u8 82):=x0;clear x0;generalize hSS:Af XS=S at *;have HSS:=Aa hSS;have hm:=Cn 123 t false;have Hwt:=Aa (fun W (h:D9 W b pb t false)=>Bn b _ t [123] false W h aG);obtain⟨t1,ht1⟩:∃t1,t1=(An [123] t false).getD t:=⟨_,rfl⟩
 obtain⟨b1,hb1⟩:∃b1,b1=(An [123] t false).isNone:=⟨_,rfl⟩
 have Ht1:=Aa ht1;have Hb1:=Aa hb1;rw[<-ht1]at hm;rw[<-ht1,<-hb1]at Hwt;have Htk:=Aa (fun W (h:D9 W b pb t1 b1)=>D8 b _ t1 [125] b1 W h aG);have Hfd:=Aa (fun W tt (h1:Below w0 w0 W) (h2:D9 W b pb tt false) (h3:tt.length<=t1.length)=>Qev w0 b N _ S x hx tt W h1 hb false h2 aG (fun _=>by omega) hN2 htg H (Dm (Ap S 1000 N) x.ty.fields tt) rfl);clear ht1 hb1 h hw hq h2 H hSS hfk hS;go_enter func100,ntmps100;go_wp2_with fail;have F1:=Aa ((Ma.init HS.o (T:=42)).post ((Aw _ _).alloc (Ar _) (.cells #[.int .u8 82,aa,.int .i64 0,.slice none 0 0] 42)))
 have K1:=Aa (show Tl (w.heap.size+1+1) (w.heap.size+1) ((w.alloc (.cells #[.int .u8 0,aa,.int .i64 0,.slice none 0 0] 42)).alloc (.cells #[.int .u8 82,aa,.int .i64 0,.slice none 0 0] 42)) (.int .u8 82) aa (.int .i64 0) (.slice none 0 0) (.slice none 0 0) []from by
  have hv:=Vb.new (w:=w.alloc (.cells #[.int .u8 0,aa,.int .i64 0,.slice none 0 0] 42)) (h0:=.int .u8 82) (h1:=aa) (h2:=.int .i64 0) (h3:=.slice none 0 0) (T:=42);simp at hv;exact⟨by simp,by simp,by omega,hv.bk,hv.c0,hv.c1,hv.c2,hv.c3,World.ownsRow_nil _ _ _ _,by simp⟩)
 refine(Hwt.o _ F1.o.1.1).mono ?_;rintro e w2 ⟨rfl,hs2⟩;have F2:=Aa (F1.o.step hb0 hs2);have K2:=Aa (K1.o.step hs2.2 aG aG);clear hs2 F1 K1;go_wp2_with fail;refine(Htk.o _ F2.o.1.1).mono ?_;rcases hy:An [125] t1 b1 with _|r
 ·have Hy:=Aa hy;clear hy;rintro e W3 ⟨rfl,hs3⟩;simp only[Option.getD_none]at hs3;have F3:=Aa (F2.o.step hb0 hs3);have K3:=Aa (K2.o.step hs3.2 aG aG);clear hs3 F2 K2;go_wp2_with fail
  go_loopw [8] (fun i wr=>∃(ps:List (Fd × Vl)) (xs:List (Vl × Value)) (A:Option Addr) (n c last:Nat) (tt:List UInt8),i=(last:Int)/\tt.length<=t1.length/\wr.cell? (b,1)=tt/\Hid (As xs=ps.map C5)/\Hid (Ma w b pb w.heap.size tt b1 wr) /\
    Hid (Tl (w.heap.size+1+1) (w.heap.size+1) wr (.int .u8 82) aa (.int .i64 0) (.slice A n c) (.slice A n c) xs)/\Hid (RI S (Ap S 1000 N) x.ty.fields t1 b1 ps last tt))
   (fun _ wr=>match wr.cell? (b,1)with|some (.string s)=>s.size|_=>0)
  case atStart=>exact⟨[],[],none,0,0,0,t1,rfl,Ar _,F3.o.1.1.2.2.2.1,rfl,F3.o,K3.o,RI.init⟩
  case round=>
   obtain⟨ps,xs,A,n,c,last,tt,rfl,htl,c1,Hvs,F,K,hI⟩:=hrel;have s2:=F.o.1.1.2.2.2.2;have hlo:=hI.o.lo;have hhi:=hI.o.hi;have hxl:xs.length<=ps.length:=by have:=congrArg List.length Hvs.o;simp[As]at this;omega
   cases b1 with
   |true=>
    have E:=hI.o.bad (N:=N);rw[<-Hvs.o]at E;go_wp2_with fail;have hn7:n=xs.length:=Gs K.o.row;subst hn7;have Hw9:=Aa (fun W (h:D9 W b pb tt true)=>Bn b _ tt [125] true W h aG);refine(Hw9.o _ F.o.1.1).mono ?_;rintro e W7 ⟨rfl,hs7⟩;have F7:=Aa (F.o.step hb0 hs7);have K7:=Aa (K.o.step hs7.2 aG aG);have hfin:=Aa (HQ.o.trans (E.fin Ht1.o Hb1.o Hy.o));have hle9:=Cn 125 tt true;obtain⟨_,_,_,hE9,hB9,hL9⟩:=E;generalize (An [125] tt true).getD tt=t4 at *;generalize (An [125] tt true).isNone=b4 at *;have HB9:=Aa hB9;have hyl:(xs).length<=1000:=dF;have d0:=K7.o.c0;have d1:=K7.o.c1;have d2:=K7.o.c2;have d3:=K7.o.c3;clear hs7 hB9;go_wp2_with ((with_reducible refine Ad (op:=⟨none,.store 42 _ _,_,_,_,none⟩) rfl 42 _ _ rfl w 0 [.int .u8 82,aa,.int .i64 0,.slice A xs.length c] ?_ ?_ ?_ ?_ ?_ ?_);rfl;rfl;(exact F7.o.2.1);kernel_rfl;(simp[Value.oneCell']);intro w9 HS9)
    have Z:=Ma.fin (v:=.mk 82 [] 0 (As xs)) (sl:=.slice A xs.length c) F7.o hb0 HS9.o ((K7.o.done hyl).mono fun c hc _=>by omega);exact aE (v:=.agg (Eg (.mk 82 [] 0 (As xs)) (.slice A xs.length c)).toArray) (Ai results100 _ _ w.heap.size _ _ rfl Z.2.2 underlying42 rfl aM) rfl ⟨.mk 82 [] 0 (As xs),_,t4,rfl,Z.1,by rw[hfin.o];cases b4<;>exact Z.2.1,by rw[hfin.o];cases b4<;>simp,.mk aJ aG aL HB9.o,by omega,by rw[E4];simp[Fa,Bg];omega⟩
   |false=>
    go_wp2_with fail;refine(Hfd.o _ tt (F.o.1.env HW.o hb) F.o.1.1 htl).mono ?_;rintro e w4 ⟨v,sl,fp,t',rfl,hk4,hs4,hB4,hl4,hn4,hcase⟩;obtain⟨A7,c7,rfl⟩:=hk4.form;have F4:=Aa (F.o.step hb0 hs4);have K4:=Aa (K.o.step hs4.2 aG aG);have Hk4:=Aa hk4;have hz4:wr.heap.size<=w4.heap.size:=hs4.2.size;have hKb:=K.o.bs;clear hs4 hk4 c1 s2;unfold Gy;rcases hcase with⟨rfl,hq1⟩|⟨g,y,hfp,rfl,hfg,hBy,hy⟩
    ·have E:=hI.o.stop (N:=N) (t':=t') (by rw[hq1];simp) hl4;rw[<-Hvs.o]at E;clear hq1 hB4;go_wp2_with fail;have F5:=Aa (F4.o.post ((Aw w4.heap.size w4).alloc (Ar _) (.cells #[.int .u8 (v.what.toNat:Int),.string ⟨v.text.toArray⟩,(v.tag:Int),.slice A7 v.kids.length c7] 42)));have K5:=Aa (K4.o.after ((Aw w4.heap.size w4).alloc (Ar _) (.cells #[.int .u8 (v.what.toNat:Int),.string ⟨v.text.toArray⟩,(v.tag:Int),.slice A7 v.kids.length c7] 42)));obtain⟨W5,hW5⟩:∃W5,W5=w4.alloc (.cells #[.int .u8 (v.what.toNat:Int),.string ⟨v.text.toArray⟩,(v.tag:Int),.slice A7 v.kids.length c7] 42):=⟨_,rfl⟩
     rw[<-hW5]at F5 K5 ⊢;clear hW5;have sb:=F5.o.1.1.2.1.live 2;have s0:=F5.o.1.1.1;have s2:=F5.o.1.1.2.2.2.2;go_quiet (fail)
     go_wp2_with fail;have F6:=Aa (F5.o.post (below_drewN (Aw _ _) nq));have F6:=Aa (F6.o.step hb0 ⟨F6.o.1.1.setBad true,Al _ b 2 (.bool true)⟩);have K6:=Aa ((K5.o.after (below_drewN (Aw _ _) nq)).step (Al _ b 2 (.bool true)) aG aG);clear sb s0 s2;have hn7:n=xs.length:=Gs K.o.row;subst hn7;have Hw9:=Aa (fun W (h:D9 W b pb t' true)=>Bn b _ t' [125] true W h aG);refine(Hw9.o _ F6.o.1.1).mono ?_;rintro e W7 ⟨rfl,hs7⟩;have F7:=Aa (F6.o.step hb0 hs7);have K7:=Aa (K6.o.step hs7.2 aG aG);have hfin:=Aa (HQ.o.trans (E.fin Ht1.o Hb1.o Hy.o));have hle9:=Cn 125 t' true;obtain⟨_,_,_,hE9,hB9,hL9⟩:=E;generalize (An [125] t' true).getD t'=t4 at *;generalize (An [125] t' true).isNone=b4 at *;have HB9:=Aa hB9;have hyl:(xs).length<=1000:=dF;have d0:=K7.o.c0;have d1:=K7.o.c1;have d2:=K7.o.c2;have d3:=K7.o.c3;clear hs7 hB9;go_wp2_with ((with_reducible refine Ad (op:=⟨none,.store 42 _ _,_,_,_,none⟩) rfl 42 _ _ rfl w 0 [.int .u8 82,aa,.int .i64 0,.slice A xs.length c] ?_ ?_ ?_ ?_ ?_ ?_);rfl;rfl;(exact F7.o.2.1);kernel_rfl;(simp[Value.oneCell']);intro w9 HS9)
     have Z:=Ma.fin (v:=.mk 82 [] 0 (As xs)) (sl:=.slice A xs.length c) F7.o hb0 HS9.o ((K7.o.done hyl).mono fun c hc _=>by omega);exact aE (v:=.agg (Eg (.mk 82 [] 0 (As xs)) (.slice A xs.length c)).toArray) (Ai results100 _ _ w.heap.size _ _ rfl Z.2.2 underlying42 rfl aM) rfl ⟨.mk 82 [] 0 (As xs),_,t4,rfl,Z.1,by rw[hfin.o];cases b4<;>exact Z.2.1,by rw[hfin.o];cases b4<;>simp,.mk aJ aG aL HB9.o,by omega,by rw[E4];simp[Fa,Bg];omega⟩
    obtain⟨fb,fo,rfl,hfb,hfr⟩:=hfp;have HP4:=@Aa (Kl w0.heap.size w4 (.pointer (some ⟨fb,fo,none⟩)) (some g)) ⟨fb,fo,rfl,hfb,hfr⟩;have hgm:=(Bi hfg).2;have hg2:=htg g hgm;obtain⟨hkd,hrf,hgl⟩:=Hfk.o g hgm;have HGg:=Aa (HG.o g hgm);have HBy:=Aa hBy;have HBf:=Aa hB4;have Hy2:=Aa hy;have hn4':(Ay (C5 (g,y))).length+t'.length<=tt.length+8*N:=hn4;simp only[C5,Vl.what,Vl.text,Vl.tag,Vl.kids,List.length_singleton]at Hk4 ⊢;clear hfr hBy hB4 hy hn4;go_wp2_with fail;obtain⟨W5,hW5⟩:∃W5,W5=w4.alloc (.cells #[.int .u8 61,aa,(g.tag:Int),.slice A7 1 c7] 42):=⟨_,rfl⟩
    have hb5:Below w4 w4 W5:=gQ;have X5:=@Aa (W5.rangeAt w4 0 [.int .u8 61,aa,(g.tag:Int),.slice A7 1 c7]) (by rw[hW5];exact Ca w4 [.int .u8 61,aa,(g.tag:Int),.slice A7 1 c7] _);have hz5:w4.heap.size<W5.heap.size:=by rw[hW5];simp
    have F5:=Aa (F4.o.post hb5);have K5:=Aa (K4.o.after hb5);have Hk5:=Aa (Hk4.o.after hb5);have HW5:=Aa (F5.o.1.env HW.o hb);have HP5:=Aa (HP4.o.via (F4.o.1.env HW.o hb) HW5.o);have G5:=@Aa (W5.rangeAt fb fo (Sp g)) (by obtain⟨a1,a2,a3,_,a5⟩:=HP5.o;injection a3 with a3;injection a3 with a3;injection a3 with a3 a4;subst a3 a4;exact a5);have D0:W5.cell? ⟨fb,fo,none⟩=(g.tag:Int):=by simpa using Ab G5.o 0 rfl
    rw[<-hW5];have hfb5:fb<W5.heap.size:=by have:=HW5.o.size;omega
    obtain⟨BX,hBX⟩:∃BX,BX=w4.heap.size:=⟨_,rfl⟩
    rw[<-hBX]at X5 hz5 hb5 hz4 ⊢;clear hW5 F4 K4 Hk4 HP4 hb5 hBX;have sb:=F5.o.1.1.2.1.live 2;have s0:=F5.o.1.1.1;have s2:=F5.o.1.1.2.2.2.2;by_cases hlt:g.tag<=last
    ·have E:=hI.o.stop (N:=N) (t':=t') (fun z hz=>.inl (by rw[Hy2.o z hz];exact hlt)) hl4;rw[<-Hvs.o]at E;have tl:decide ((g.tag:Int)<=(last:Int))=true:=aC aG;go_quiet (fail)
     go_wp2_with fail;have F6:=Aa (F5.o.post (below_drewN (Aw _ _) nq));have F6:=Aa (F6.o.step hb0 ⟨F6.o.1.1.setBad true,Al _ b 2 (.bool true)⟩);have K6:=Aa ((K5.o.after (below_drewN (Aw _ _) nq)).step (Al _ b 2 (.bool true)) aG aG);clear sb s0 s2 D0;have hn7:n=xs.length:=Gs K.o.row;subst hn7;have Hw9:=Aa (fun W (h:D9 W b pb t' true)=>Bn b _ t' [125] true W h aG);refine(Hw9.o _ F6.o.1.1).mono ?_;rintro e W7 ⟨rfl,hs7⟩;have F7:=Aa (F6.o.step hb0 hs7);have K7:=Aa (K6.o.step hs7.2 aG aG);have hfin:=Aa (HQ.o.trans (E.fin Ht1.o Hb1.o Hy.o));have hle9:=Cn 125 t' true;obtain⟨_,_,_,hE9,hB9,hL9⟩:=E;generalize (An [125] t' true).getD t'=t4 at *;generalize (An [125] t' true).isNone=b4 at *;have HB9:=Aa hB9;have hyl:(xs).length<=1000:=dF;have d0:=K7.o.c0;have d1:=K7.o.c1;have d2:=K7.o.c2;have d3:=K7.o.c3;clear hs7 hB9;go_wp2_with ((with_reducible refine Ad (op:=⟨none,.store 42 _ _,_,_,_,none⟩) rfl 42 _ _ rfl w 0 [.int .u8 82,aa,.int .i64 0,.slice A xs.length c] ?_ ?_ ?_ ?_ ?_ ?_);rfl;rfl;(exact F7.o.2.1);kernel_rfl;(simp[Value.oneCell']);intro w9 HS9)
     have Z:=Ma.fin (v:=.mk 82 [] 0 (As xs)) (sl:=.slice A xs.length c) F7.o hb0 HS9.o ((K7.o.done hyl).mono fun c hc _=>by omega);exact aE (v:=.agg (Eg (.mk 82 [] 0 (As xs)) (.slice A xs.length c)).toArray) (Ai results100 _ _ w.heap.size _ _ rfl Z.2.2 underlying42 rfl aM) rfl ⟨.mk 82 [] 0 (As xs),_,t4,rfl,Z.1,by rw[hfin.o];cases b4<;>exact Z.2.1,by rw[hfin.o];cases b4<;>simp,.mk aJ aG aL HB9.o,by omega,by rw[E4];simp[Fa,Bg];omega⟩
    have tl:decide ((g.tag:Int)<=(last:Int))=false:=aB aG;obtain⟨ka,kc,kxs,ek,hkk,_,hkr,_,hkk2⟩:=Hk5.o;obtain⟨⟨y',ys⟩,rfl⟩:∃a,kxs=[a]:=by
     cases kxs with
     |nil=>simp[As]at hkk
     |cons a l=>cases l with
      |nil=>exact⟨a,rfl⟩
      |cons b l=>simp[As]at hkk
    obtain rfl:y=y':=by simpa [As]using hkk
    injection ek with e1 e2 e3;subst e1 e3;have hky:=hkk2 (y,ys) aL;obtain⟨A8,c8,e8⟩:=hky.form;simp only at e8 hky;subst e8;obtain⟨kb,ko,rfl,hkb,q0,q1,q2,q3⟩:=Dt.at_ hkr (show 0<1 by decide);simp only[List.getElem_cons_zero,Nat.zero_mul,Nat.add_zero]at q0 q1 q2 q3;have Hky:=Aa hky;have Q0:=Aa q0;have Q1:=Aa q1;have Q2:=Aa q2;have Q3:=Aa q3;have DD:=Aa D0;have SP:=Aa F5.o.1.1.2.2.1;have HPr:=Aa (fun W (h:Below W5 W5 W)=>M8 _ HBy.o (.slice A8 y.kids.length c8) W (Hky.o.after h));have HOf:=Aa (fun W (h:Below W5 W5 W)=>Qg6 pb XS (by rw[HSS.o];exact HSo.o) g fb fo W (Hsc.o.below (HW5.o.trans (h.mono HW5.o.size))) (Au G5.o hfb5 h) hkd (by rw[HSS.o];exact hrf) hgl);simp only[HSS.o]at HOf;have HV:=Aa (rfl:Ay y=Ay y);generalize hpy:Ay y=py at *;generalize hpo:Mh S g=po at *;have Hpy:=Aa hpy;have Hpo:=Aa hpo;unfold Gy at HPr;clear q0 q1 q2 q3 hkk2 hky hkr hkk e2 D0 s2 hpy hpo HV;refine Qr [36,37,38,39,40,41,42,43,44,45,46,47,48,49,50,51,52,53,54,55,56,57,58,59]
     (fun ix v W=>match ix with|0=>v=.pointer (some ⟨fb,fo,none⟩)|1=>v=.bool false|2=>v=.bool false|3=>v=.pointer (some ⟨fb,fo,none⟩)|4=>v=.pointer (some ⟨fb,fo,none⟩)|5=>v=.pointer (some ⟨fb,fo,none⟩)|6=>v=(g.tag:Int)|7=>v=(last:Int)|8=>v=.bool false|9=>v=.bool false|10=>v=.bool false|11=>v=.pointer (some ⟨BX,3,none⟩)|12=>v=.slice (some ⟨kb,ko,none⟩) 1 c7|13=>v=.pointer (some ⟨kb,ko,none⟩)|14=>v=.agg #[.int .u8 (y.what.toNat:Int),y.text,(y.tag:Int),.slice A8 y.kids.length c8]|15=>v=py|16=>v=b|17=>v=b|18=>v=b|19=>v=pb|20=>v=.pointer (some ⟨fb,fo,none⟩)|21=>v=po|22=>v=.bool (py == po)|23=>v=.bool (py == po)|_=>True)
     (fun L U W=>Below W5 W5 W) ((Aw _ _).drew) ?_ ?_
    ·repeat (first|exact Av.nil|(refine Av.cons ?_ ?_;rotate_left))
     all_goals
      rintro L U W hL hpre HR Hdep K hK;have hB:=HR.o;have m0:W.cell? ⟨fb,fo,none⟩=(g.tag:Int):=(hB.cell (p:=⟨fb,fo,none⟩) hfb5).trans DD.o;have m3:W.cell? ⟨BX,3,none⟩=some (.slice (some ⟨kb,ko,none⟩) 1 c7):=(hB.cell (p:=⟨BX,3,none⟩) hz5).trans (X5.o 3 _ rfl);have y0:=(hB.cell (p:=⟨kb,ko,none⟩) hkb).trans Q0.o;have y1:=(hB.cell (p:=⟨kb,ko+1,none⟩) hkb).trans Q1.o;have y2:=(hB.cell (p:=⟨kb,ko+2,none⟩) hkb).trans Q2.o;have y3:=(hB.cell (p:=⟨kb,ko+3,none⟩) hkb).trans Q3.o;have p0:W.cell? (b,0)=pb:=(hB.cell (p:=⟨b,0,none⟩) s0).trans SP.o;first|(simp[Region.binds]at hpre;done)|simp[Region.binds]at hpre|clear hpre
     iterate 15
      ·exact ir
     ·go_simp;refine(HPr.o W hB).mono ?_;rintro e w5 ⟨rfl,hb5⟩;exact lT
     iterate 5
      ·exact ir
     ·go_simp;refine(HOf.o W hB).mono ?_;rintro e w5 ⟨rfl,hb5⟩;exact lT
     iterate 2
      ·exact ir
    rintro L U W hL hφ hR;have e23:U 23=.bool (py == po):=hφ 23 aJ;simp only[e23];clear hφ;have hB6:=Aa hR;have F6:=Aa (F5.o.post hR);have K6:=Aa (K5.o.after hR);have X6:=Aa (Au X5.o hz5 hR);have Hk6:=Aa (Hk5.o.after hR);have D6:W.cell? ⟨fb,fo,none⟩=(g.tag:Int):=(hR.cell (p:=⟨fb,fo,none⟩) hfb5).trans DD.o;have hzW:=hR.size;clear hL hR;by_cases heq:py=po
    ·have te:(py == po)=true:=by simp[heq]
     have E:=hI.o.stop (N:=N) (t':=t') (fun z hz=>.inr (by rw[Hy2.o z hz];exact Hpy.o.trans (heq.trans Hpo.o.symm))) hl4;rw[<-Hvs.o]at E;have sb:=F6.o.1.1.2.1.live 2;have s0:=F6.o.1.1.1;have s2:=F6.o.1.1.2.2.2.2;clear heq;rw[te];go_wp2_with fail;have F7:=Aa (F6.o.step hb0 ⟨F6.o.1.1.setBad true,Al _ b 2 (.bool true)⟩);have K7:=Aa (K6.o.step (Al _ b 2 (.bool true)) aG aG);clear sb s0 s2;have hn7:n=xs.length:=Gs K.o.row;subst hn7;have Hw9:=Aa (fun W (h:D9 W b pb t' true)=>Bn b _ t' [125] true W h aG);refine(Hw9.o _ F7.o.1.1).mono ?_;rintro e W7 ⟨rfl,hs7⟩;have F7:=Aa (F7.o.step hb0 hs7);have K7:=Aa (K7.o.step hs7.2 aG aG);have hfin:=Aa (HQ.o.trans (E.fin Ht1.o Hb1.o Hy.o));have hle9:=Cn 125 t' true;obtain⟨_,_,_,hE9,hB9,hL9⟩:=E;generalize (An [125] t' true).getD t'=t4 at *;generalize (An [125] t' true).isNone=b4 at *;have HB9:=Aa hB9;have hyl:(xs).length<=1000:=dF;have d0:=K7.o.c0;have d1:=K7.o.c1;have d2:=K7.o.c2;have d3:=K7.o.c3;clear hs7 hB9;go_wp2_with ((with_reducible refine Ad (op:=⟨none,.store 42 _ _,_,_,_,none⟩) rfl 42 _ _ rfl w 0 [.int .u8 82,aa,.int .i64 0,.slice A xs.length c] ?_ ?_ ?_ ?_ ?_ ?_);rfl;rfl;(exact F7.o.2.1);kernel_rfl;(simp[Value.oneCell']);intro w9 HS9)
     have Z:=Ma.fin (v:=.mk 82 [] 0 (As xs)) (sl:=.slice A xs.length c) F7.o hb0 HS9.o ((K7.o.done hyl).mono fun c hc _=>by omega);exact aE (v:=.agg (Eg (.mk 82 [] 0 (As xs)) (.slice A xs.length c)).toArray) (Ai results100 _ _ w.heap.size _ _ rfl Z.2.2 underlying42 rfl aM) rfl ⟨.mk 82 [] 0 (As xs),_,t4,rfl,Z.1,by rw[hfin.o];cases b4<;>exact Z.2.1,by rw[hfin.o];cases b4<;>simp,.mk aJ aG aL HB9.o,by omega,by rw[E4];simp[Fa,Bg];omega⟩
    have te:(py == po)=false:=by simpa using heq
    have hne:Ay y≠Mh S g:=by rw[Hpy.o,Hpo.o];exact heq
    have Hne:=Aa hne;clear heq hne;rw[te];have Hk6r:=Aa (Hk6.o.mono (Q:=fun d=>w.heap.size+1+1<=d/\(Value.slice A n c).ownBlock≠some d) (fun d hd _=>⟨by omega,fun e=>by have:=(K.o.row.lt d e).2;omega⟩));have kc3:=K6.o.c3;have x60:=X6.o 0 _ rfl;have x61:=X6.o 1 _ rfl;have x62:=X6.o 2 _ rfl;have x63:=X6.o 3 _ rfl;simp only[am]at x60 x61 x62 x63;have hn7:=Gs K6.o.row;subst hn7;go_wp2_with (at_builtin;refine Qb4 W rfl _ _ 40 rfl (w.heap.size+1+1) 42 (.agg #[.int .u8 0,aa,.int .i64 0,.slice none 0 0]) 4 56 underlying40 Q8 rfl aJ (Dl (C5 (g,y),.slice (some ⟨kb,ko,none⟩) 1 c7)) rfl (Qbx _ rfl) (.slice A xs.length c) xs.length (xs.flatMap Dl) rfl rfl K6.o.row aU aG K6.o.bs ?_;intro v7 w9 hown9 hg9 hwh9;have Hown9:=Aa hown9;have Hg9:=Aa hg9;have Hwh9:=Aa hwh9;obtain⟨A9,n9,c9,rfl⟩:=Gm hown9;clear hown9 hg9 hwh9;have K9:=Aa (K6.o.app (x:=(C5 (g,y),.slice (some ⟨kb,ko,none⟩) 1 c7)) Hk6r.o Hown9.o Hg9.o Hwh9.o);have F9:=Aa (F6.o.app hb0 Hg9.o (fun k e=>by have:=(K6.o.row.lt k e).1;omega));have z3:=K9.o.c3;have zf:=K9.o.bk.live 3;have zl:=K9.o.lt)
    have K10:=Aa K9.o.store;have F10:=Aa (F9.o.app hb0 (Al w9 (w.heap.size+1) 3 (.slice A9 n9 c9)) (fun k e=>by injection e with e;omega));generalize w9.setCell ⟨w.heap.size+1,3,none⟩ (.slice A9 n9 c9)=w10 at *;clear z3 zf zl kc3 x60 x61 x62 x63 K9 F9;have Htk5:=Aa (fun W (h:D9 W b pb t' (Dm (Ap S 1000 N) x.ty.fields tt).isNone)=>D8 b _ t' [44] (Dm (Ap S 1000 N) x.ty.fields tt).isNone W h aG);refine(Htk5.o _ F10.o.1.1).mono ?_;rcases hc:An [44] t' (Dm (Ap S 1000 N) x.ty.fields tt).isNone with _|r
    ·have E:=hI.o.brk (N:=N) Hy2.o aG Hne.o hc HBf.o hn4';clear hc;rintro e W6 ⟨rfl,hs6⟩;simp only[Option.getD_none]at hs6;have F11:=Aa (F10.o.step hb0 hs6);have K11:=Aa (K10.o.step hs6.2 aG aG);rw[<-Hvs.o]at E;have E:RE S (Ap S 1000 N) x.ty.fields t1 false (As (xs++[(C5 (g,y),.slice (some ⟨kb,ko,none⟩) 1 c7)])) t' (Dm (Ap S 1000 N) x.ty.fields tt).isNone N:=by simpa [As]using E
     clear hs6;go_wp2_with fail;generalize xs++[(C5 (g,y),Value.slice (some ⟨kb,ko,none⟩) 1 c7)]=ys at *;have hn7:n9=ys.length:=Gs K11.o.row;subst hn7;have Hw9:=Aa (fun W (h:D9 W b pb t' (Dm (Ap S 1000 N) x.ty.fields tt).isNone)=>Bn b _ t' [125] (Dm (Ap S 1000 N) x.ty.fields tt).isNone W h aG);refine(Hw9.o _ F11.o.1.1).mono ?_;rintro e W7 ⟨rfl,hs7⟩;have F7:=Aa (F11.o.step hb0 hs7);have K7:=Aa (K11.o.step hs7.2 aG aG);have hfin:=Aa (HQ.o.trans (E.fin Ht1.o Hb1.o Hy.o));have hle9:=Cn 125 t' (Dm (Ap S 1000 N) x.ty.fields tt).isNone;obtain⟨_,_,_,hE9,hB9,hL9⟩:=E;generalize (An [125] t' (Dm (Ap S 1000 N) x.ty.fields tt).isNone).getD t'=t4 at *;generalize (An [125] t' (Dm (Ap S 1000 N) x.ty.fields tt).isNone).isNone=b4 at *;have HB9:=Aa hB9;have hyl:(ys).length<=1000:=dF;have d0:=K7.o.c0;have d1:=K7.o.c1;have d2:=K7.o.c2;have d3:=K7.o.c3;clear hs7 hB9;go_wp2_with ((with_reducible refine Ad (op:=⟨none,.store 42 _ _,_,_,_,none⟩) rfl 42 _ _ rfl w 0 [.int .u8 82,aa,.int .i64 0,.slice A9 ys.length c9] ?_ ?_ ?_ ?_ ?_ ?_);rfl;rfl;(exact F7.o.2.1);kernel_rfl;(simp[Value.oneCell']);intro w9 HS9)
     have Z:=Ma.fin (v:=.mk 82 [] 0 (As ys)) (sl:=.slice A9 ys.length c9) F7.o hb0 HS9.o ((K7.o.done hyl).mono fun c hc _=>by omega);exact aE (v:=.agg (Eg (.mk 82 [] 0 (As ys)) (.slice A9 ys.length c9)).toArray) (Ai results100 _ _ w.heap.size _ _ rfl Z.2.2 underlying42 rfl aM) rfl ⟨.mk 82 [] 0 (As ys),_,t4,rfl,Z.1,by rw[hfin.o];cases b4<;>exact Z.2.1,by rw[hfin.o];cases b4<;>simp,.mk aJ aG aL HB9.o,by omega,by rw[E4];simp[Fa,Bg];omega⟩
    have hcl:=Fl hc;rintro e W6 ⟨rfl,hs6⟩;simp only[Option.getD_some]at hs6;cases hk:Dm (Ap S 1000 N) x.ty.fields tt with
    |none=>rw[hk,Bk]at hc;exact absurd hc aL
    |some z=>
     have hz:=Hy2.o z hk;subst hz
     have I6:=Aa (show RI S (Ap S 1000 N) x.ty.fields t1 false (ps++[(g,y)]) g.tag r from by
      have h44:Aj 44 t'=some r:=by rw[hk,Bk]at hc;simpa using hc
      have hl9:=(Sf (P:=fun _ _=>True) (fun f hf s v r h=>⟨Ac,HG.o f hf s v r h⟩) hk).2.2.2;exact hI.o.step hk aG Hne.o (by rw[hl9];simp) h44 HBf.o hg2)
     rw[hk]at hs6 F10;have F11:=Aa (F10.o.step hb0 hs6);have K11:=Aa (K10.o.step hs6.2 aG aG);have V11:=@Aa (As (xs++[(C5 (g,y),.slice (some ⟨kb,ko,none⟩) 1 c7)])=(ps++[(g,y)]).map C5) (by have:=Hvs.o;simp[As]at this ⊢;exact this);have c6:=F11.o.1.1.2.2.2.1;have c1:=F.o.1.1.2.2.2.1;clear hs6 hk hc;go_wp2_with fail;go_roundw
     case rel=>exact⟨ps++[(g,y)],xs++[(C5 (g,y),Value.slice (some ⟨kb,ko,none⟩) 1 c7)],A9,n9,c9,g.tag,r,rfl,by omega,c6,V11.o,F11.o,K11.o,I6.o⟩
     case measure=>simp[c1,c6,ByteArray.size];omega
 have Hy:=Aa hy;have hlt:=Fl hy;clear hy;rintro e W3 ⟨rfl,hs3⟩;simp only[Option.getD_some]at hs3;have F3:=Aa (F2.o.step hb0 hs3);have K3:=Aa (K2.o.step hs3.2 aG aG);clear hs3 F2 K2;have d0:=K3.o.c0;have d1:=K3.o.c1;have d2:=K3.o.c2;have d3:=K3.o.c3;go_wp2_with ((with_reducible refine Ad (op:=⟨none,.store 42 _ _,_,_,_,none⟩) rfl 42 _ _ rfl w 0 [.int .u8 82,aa,.int .i64 0,.slice none 0 0] ?_ ?_ ?_ ?_ ?_ ?_);rfl;rfl;(exact F3.o.2.1);kernel_rfl;(simp[Value.oneCell']);intro w9 HS9)
 have hq2:q=some (.mk 82 [] 0 [],r):=by
  have h1:=Ht1.o;have h2:=Hb1.o;have h3:=Hy.o;rw[HQ.o];rw[Bk]at h1 h2 h3;simp only[an,if_false]at h1 h2;cases h9:Aj 123 t with
  |none=>rw[h9]at h2;simp at h2;subst h2;simp at h3
  |some z=>
   rw[h9]at h1 h2;simp at h1 h2;subst h1 h2;simp only[an,if_false]at h3;simp only[h3]
 have hb1':b1=false:=by cases b1;rfl;have:=Hy.o;rw[Bk]at this;simp at this
 subst hb1';have Z:=Ma.fin (v:=.mk 82 [] 0 []) (sl:=.slice none 0 0) F3.o hb0 HS9.o (Dt.nil _ _);exact aE (v:=.agg (Eg (.mk 82 [] 0 []) (.slice none 0 0)).toArray) (Ai results100 _ _ w.heap.size _ _ rfl Z.2.2 underlying42 rfl aM) rfl ⟨.mk 82 [] 0 [],_,r,rfl,Z.1,by rw[hq2];exact Z.2.1,by rw[hq2];simp,Ge aJ aJ,by omega,by simp[Ay,Di,Fa,Am];omega⟩
inductive Dw:Vl->Prop
 |fd {tx:List UInt8} {tg:Nat} {x:Vl} (h:Dw x):Dw (.mk 61 tx tg [x])
 |no {w:UInt8} {tx:List UInt8} {tg:Nat} {ks:List Vl} (hw:w≠61) (h:∀x∈ks,Dw x):Dw (.mk w tx tg ks)
theorem Gb.dw{S:List Ty}:∀{d:Nat} {k:Kd} {v:Vl},Gb S d k v->Dw v:=by
 intro d;induction d with
 |zero=>intro k v h;cases h
 |succ d ih=>
  intro k v h;cases h with
  |n=>exact .no aJ aL
  |t=>exact .no aJ aL
  |f=>exact .no aJ aL
  |lst hs hl h=>exact .no aJ fun x hx=>ih (h x hx)
  |non=>exact .no aJ aL
  |som hs h=>exact .no aJ fun x hx=>by rw[ap]at hx;subst hx;exact ih h
  |enm=>exact .no aJ aL
  |uni hs hb ht h5 hf h=>exact .no aJ fun x hx=>by rw[ap]at hx;subst hx;exact ih h
  |rcd hs hb ht h2 hf h hn hp=>
   refine .no aJ fun x hx=>?_;obtain⟨p,hp,rfl⟩:=aw.1 hx;exact .fd (ih (h p hp))
theorem Qa8(x:Vl):∀l:List Vl,Jl (l++[x])=max (Jl l) (Md x)
 |[]=>by simp[Jl]
 |y::l=>by rw[au,Jl,Qa8 x l,Jl];omega
theorem Qa2(P:Nat->Prop){v:Vl}(hd:Dw v):∀(sl:Value) (w:World),Dt P w sl v.kids->Md v<=100000 ->
  Calls prog 61 #[Gy v sl] w fun e w'=>e=.returned (.int .i64 (Md v:Int))/\Below w w w':=by
 induction hd with
 |@fd tx tg x hx ih=>
  intro sl w h hl;obtain⟨A,c,xs,rfl,hks,hlx,hr,hP,hk⟩:=h;obtain⟨⟨y,ys⟩,rfl⟩:∃a,xs=[a]:=by
   cases xs with
   |nil=>simp[As,Vl.kids]at hks
   |cons a l=>cases l with
    |nil=>exact⟨a,rfl⟩
    |cons b l=>simp[As,Vl.kids]at hks
  obtain rfl:x=y:=by simpa [As,Vl.kids]using hks
  have hdp:Md (.mk 61 tx tg [x])=Md x:=fm;rw[hdp]at hl ⊢;have hkx:=hk (x,ys) aL;obtain⟨A7,c7,e7⟩:=hkx.form;simp only at e7;subst e7;obtain⟨b,off,rfl,hb,d0,d1,d2,d3⟩:=Dt.at_ hr (show 0<1 by decide);simp only[List.getElem_cons_zero,Nat.zero_mul,Nat.add_zero]at d0 d1 d2 d3;have Hkx:=Aa hkx;have Ih:=Aa (fun W h=>ih (.slice A7 x.kids.length c7) W h hl);have hbn:¬(b=w.heap.size):=aG;generalize Md x=n at *;unfold Gy at Ih ⊢;clear hk hr hP hks hkx ih;simp only[Vl.what,Vl.text,Vl.tag,List.length_singleton];go_enter func61,ntmps61;go_wp2_with fail;refine(Ih.o _ (Hkx.o.after ((Aw _ _).alloc (Ar _) _))).mono ?_;rintro e w1 ⟨rfl,hb1⟩;have Hb1:=Aa (((Aw w.heap.size w).alloc (Ar _) _).trans (hb1.mono aL));clear hb1;go_wp2_with fail;go_ret;exact⟨rfl,Hb1.o⟩
 |@no wh tx tg ks hw hks ih=>
  intro sl w h hl;have t61:((wh.toNat:Int) == 61)=false:=At (d:=61) hw;have hdp:Md (.mk wh tx tg ks)=Jl ks+1:=by rw[Md,if_neg hw]
  rw[hdp]at hl ⊢;simp only[Vl.kids]at h;obtain⟨A,c,xs,rfl,rfl,hlx,hr,hP,hk⟩:=h;have Hdp:=Aa hdp;have Hr:=Aa hr;have Hk:=Aa hk;have Hle:=Aa ((Xx (As xs) 100000).1 aG);have Ih:=Aa (fun x hx s W h=>ih x hx s W h (Hle.o x hx));clear hr hk hP ih hks hw;unfold Gy;simp only[Vl.what,Vl.text,Vl.tag];have hxl:(As xs).length=xs.length:=by simp[As]
  have HF:=Aa (rfl:As xs=xs.map (·.1));go_enter func61,ntmps61;go_wp2_with fail;obtain⟨w1,hw1⟩:∃w1,w1=w.alloc (.cells #[.int .u8 (wh.toNat:Int),tx,(tg:Int),.slice A xs.length c] 42):=⟨_,rfl⟩
  rw[<-hw1];have Hb1:=Aa (show Below w w w1 by rw[hw1];exact(Aw _ _).alloc (Ar _) _);have hz1:w.heap.size<w1.heap.size:=cO;have Hr1:=Aa (Hr.o.below Hb1.o);have Hk1:=Aa (fun x hx=>(Hk.o x hx).after Hb1.o);clear hw1 Hr Hk;go_loopw [17,3] (fun i u wr=>∃m:Nat,i=.int .i64 m/\u=.int .i64 (Jl ((xs.take m).map (·.1)):Int)/\m<=xs.length/\Hid (Jl ((xs.take m).map (·.1))<=100000)/\Hid (Below w1 w1 wr)) (fun i _ _=>xs.length - (intOf i).toNat)
  case atStart=>exact⟨0,rfl,rfl,ag _,ag _,Aw _ _⟩
  case round=>
   obtain⟨m,rfl,rfl,hm,hdm,Hbr⟩:=hrel;have m1:(0:Int)<=(m:Int):=aG;by_cases hlt:m<xs.length
   ·have m2:(m:Int)<(xs.length:Int):=aG;obtain⟨b,off,rfl,hb,d0,d1,d2,d3⟩:=Dt.at_ (Hr1.o.below Hbr.o) hlt;have Hkx:=Aa ((Hk1.o _ (ae hlt)).after Hbr.o);have Hmx:=@Aa (xs[m].1∈As xs) (ao (ae hlt));have Hts:=Aa (Bx xs m hlt);have hsz:w1.heap.size<=wr.heap.size:=Hbr.o.size;have hbn:¬(b=wr.heap.size):=aG;generalize xs[m]=x at *;obtain⟨y,ys⟩:=x;obtain⟨A7,c7,e7⟩:=Hkx.o.form;simp only at e7 d0 d1 d2 d3 Hkx Hmx;subst e7;have hyl:=Hle.o y Hmx.o;have Hx:=Aa (fun W=>Ih.o y Hmx.o (.slice A7 y.kids.length c7) W);have Hsn:=Aa (show Jl ((xs.take (m+1)).map (·.1))=max (Jl ((xs.take m).map (·.1))) (Md y)by rw[Hts.o,ay];exact Qa8 y _);unfold Gy at Hx;have hdm':=hdm.o;generalize Jl ((xs.take m).map (·.1))=q at *;generalize Md y=n at *;go_wp2_with fail;refine(Hx.o _ (Hkx.o.after ((Aw _ _).alloc (Ar _) _))).mono ?_;rintro e w3 ⟨rfl,hb3⟩;have Hb3:=Aa (((Aw wr.heap.size wr).alloc (Ar _) _).trans (hb3.mono aL));clear hb3;go_wp2_with fail;go_roundw
    case rel=>exact⟨m+1,by go_num,by rw[Hsn.o];congr 1;omega,by omega,by rw[Hsn.o];show max q n<=100000;omega,Hbr.o.trans (Hb3.o.mono hsz)⟩
    case measure=>simp[intOf];omega
   ·obtain rfl:m=xs.length:=aG;have Hb6:=Aa (Hb1.o.trans (Hbr.o.mono aG));have HD:=Aa (show Jl ((xs.take xs.length).map (·.1))=Jl (As xs)by rw[List.take_length];rfl);have hd2:=hdm.o;generalize Jl ((xs.take xs.length).map (·.1))=q at *;go_wp2_with fail;go_ret;exact⟨Qmw (by have:=HD.o;have:=Hdp.o;omega),Hb6.o⟩
theorem Qj8{st:UInt8}{f:Fd}(h:Xp st f):f.given.length<=14:=by
 by_cases hs:st=69
 ·rw[(h.2.2.2.1 hs).2];simp
 by_cases hg:f.given=[]
 ·rw[hg];simp
 have:=((h.2.2.2.2 hs).2 hg).2.2;unfold Cf at this;split at this
 ·split at this
  ·rename_i n hd;have:=Cm.1 hd;rw[this.2];have:=C0 5 n db;omega
  cases this
 split at this
 ·simp only[av,decide_eq_true_eq]at this;have h4:=this.2;unfold Du at h4;simp only[av,decide_eq_true_eq,List.length_dropLast,List.length_drop]at h4;omega
 split at this
 ·simp only[decide_eq_true_eq]at this;rw[this];simp
 cases this
theorem Qf2(w0:World)(b N:Nat)(p:Value)(XS:List PT)(hsc:Q7 w0 p XS)(t:List UInt8)(k:Kd)(w:World)(hw:Below w0 w0 w)(hb:w0.heap.size<=b)(h:D9 w b p t false)(hl:t.length<=900)(hs:k.signs=[])(hbs:k.base=[64])(hnm:k.name.length<=100)
  (x:PT) (hxf:Fi XS k.name=some x) (q:Option (Vl × List UInt8)) (HO:∀W,Below w0 w0 W->D9 W b p t false->Calls prog 100 #[b,.pointer (some ⟨x.blk,0,none⟩)] W (M5 W b p t (N+1) q)):
  Calls prog 57 #[b,Ey k] w (M5 w b p t (N+1) q):=by
 have HH:=Aa HO;obtain⟨pb,A,c,mb,rfl,hpb,hc0,hc1,_,hnd,_,_⟩:=hsc
 have HN:=Aa (fun W (h:Below w0 w0 W)=>show (Instr.lookup 78 (.map (some mb)) k.name false).run prog W=.ok (.pointer (some ⟨x.blk,0,none⟩)) W from by
  have:=Fg (Ed.below hnd h) k.name aG;rw[hxf]at this;exact this)
 have HM:=Aa (fun W (h:Below w0 w0 W)=>(h.cell (p:=⟨pb,1,none⟩) hpb).trans hc1);have HS:=Aa h;have HW:=Aa hw;have hb0:=h.1;have hbn:¬(b=w.heap.size):=aG;have hbn2:¬(b=w.heap.size+1):=aG;have c2:=h.2.2.2.2;obtain⟨sg,bs,nm⟩:=k;simp only at hs hbs HN;subst hs hbs;unfold Ey;simp only;clear h hw hxf HO hc0 hc1 hnd;go_enter func57,ntmps57;go_wp2_with fail;refine(D2 _ _ _).mono ?_;rintro e w2 ⟨rfl,hb2⟩;have F2:=Aa ((Fy.init (k:=⟨[],[64],nm⟩) HS.o).post hb2);clear hb2 c2;have k0:=Ab F2.o.2.1 0 rfl;have k1:=Ab F2.o.2.1 1 rfl;have k2:=Ab F2.o.2.1 2 rfl;simp only[am]at k0 k1 k2;go_wp2_with fail;have hlz:=F2.o.2.2.2;have SP:=Aa F2.o.1.1.2.2.1;have hbz:=F2.o.1.1.1;refine Bq [52,53,54,55,56,57,58,59,60,61,62,63,999] aM aM aM (fun u=>by dsimp only[B9,Bw,List.set,am,Nat.reduceAdd])
  (fun ix v W=>match ix with|0=>v=b|1=>v=b|2=>v=b|3=>v=b|4=>v=pb|5=>v=pb|6=>v=(pb,1)|7=>v=.map (some mb)|8=>v=(w,2)|9=>v=nm|10=>v=.pointer (some ⟨x.blk,0,none⟩)|11=>∃x s,v=Gy x s|_=>True)
  (fun L U W=>(L 11=false->Below w2 w2 W)/\(L 11=true->L 12=false->∃v sl t',U 11=Gy v sl/\Dt (fun c=>w.heap.size+2<=c) W sl v.kids/\Fy w b pb ⟨[],[64],nm⟩ t' q.isNone W/\(∀x,q=some x->v=x.1/\t'=x.2)/\Bd v/\t'.length<=t.length/\(Ay v).length+t'.length<=t.length+8*(N+1)) /\
  (L 12=true->∃v sl,M5 w b pb t (N+1) q (.returned (.agg (Eg v sl).toArray)) W/\W.rangeAt (w.heap.size+1) 0 (Eg v sl))) (fun _ _=>True) (fun _ _ _ _ _ h=>h) (⟨fun _=>(Aw _ _).drew,fun h=>Bool.noConfusion h,fun h=>Bool.noConfusion h⟩) ?_ ?_
 ·repeat (first|exact Av.nil|(refine Av.cons ?_ ?_;rotate_left))
  all_goals
   rintro L U W hL hpre hR hun hdep K hK;have HR:=Aa hR;obtain⟨R1,R2,R3⟩:=HR.o;have Hdep:=Aa hdep;clear hun hdep hR;first|(simp[Region.binds]at hpre;done)|simp[Region.binds]at hpre|clear hpre
  iterate 4
   ·exact ir
  ·have h5:L 5=false:=Bv Hdep.o 5 4 rfl hL;have h6:L 6=false:=Bv Hdep.o 6 5 rfl h5;have h7:L 7=false:=Bv Hdep.o 7 6 rfl h6;have h10:L 10=false:=Bv Hdep.o 10 7 rfl h7;have h11:L 11=false:=Bv Hdep.o 11 10 rfl h10;have hB:=R1 h11;have hW2:=(F2.o.post hB).1.env HW.o hb;have p0:W.cell? (b,0)=pb:=(hB.cell (p:=⟨b,0,none⟩) hbz).trans SP.o;exact lQ
  iterate 2
   ·exact ir
  ·have h10:L 10=false:=Bv Hdep.o 10 7 rfl hL;have h11:L 11=false:=Bv Hdep.o 11 10 rfl h10;have hB:=R1 h11;have hW2:=(F2.o.post hB).1.env HW.o hb;have m1:=HM.o W hW2;exact lQ
  ·exact ir
  ·have h10:L 10=false:=Bv Hdep.o 10 9 rfl hL;have h11:L 11=false:=Bv Hdep.o 11 10 rfl h10;have hB:=R1 h11;have hW2:=(F2.o.post hB).1.env HW.o hb;have n2:W.cell? (w,2)=nm:=(hB.cell (p:=⟨w.heap.size,2,none⟩) (show w.heap.size<_ by omega)).trans k2;exact lQ
  ·have h11:L 11=false:=Bv Hdep.o 11 10 rfl hL;have hB:=R1 h11;have hW2:=(F2.o.post hB).1.env HW.o hb;have hlk:=HN.o W hW2;exact lQ
  ·have h12:L 12=false:=Bv Hdep.o 12 11 rfl hL;have hB:=R1 hL;have F3:=F2.o.post hB;go_simp;refine(HH.o W (F3.1.env HW.o hb) F3.1.1).mono ?_;rintro e w5 ⟨v,sl,t',rfl,hk5,hs5,hx5,hB5,hl5,hn5⟩;exact hK (Gy v sl) _ _ ⟨v,sl,rfl⟩ Ac ⟨fun h=>by simp at h,fun _ _=>⟨v,sl,t',rfl,hk5.mono fun c hc _=>(by have:=hB.size;omega),F3.step hb0 hs5,hx5,hB5,hl5,hn5⟩,fun h=>absurd (h12.symm.trans aR) aJ⟩ aI
  ·have l11:L 11=true:=hpre.1.1;obtain⟨v,sl,t',u11,hk5,F5,hx5,hB5,hl5,hn5⟩:=R2 l11 hL;obtain⟨A7,c7,rfl⟩:=hk5.form;have Z:=Fy.fin (w9:=W.setCells (w.heap.size+1) 0 (Eg v (.slice A7 v.kids.length c7))) (t:=t) (N:=N+1) (v:=v) (sl:=.slice A7 v.kids.length c7) (r:=q) F5 hb0 rfl hk5 rfl hx5 hB5 hl5 hn5;rw[if_pos bQ];refine wp_store_mid 42 _ _ rfl (w.heap.size+1) 0 (Eg v (.slice A7 v.kids.length c7)).toArray rfl u11 F5.2.2.1 aM (by simp[Eg,Value.oneCell']) ?_;exact hK undef _ _ Ac Ac ⟨fun h=>absurd (l11.symm.trans aR) aJ,fun _ h=>by simp at h,fun _=>⟨v,_,Z.1,Z.2⟩⟩ rfl
 rintro L U W hL hφ hR;clear hφ;obtain⟨_,_,h3⟩:=hR;obtain⟨v,sl,Z1,Z2⟩:=h3 (hL 12 aJ);clear hL h3;go_wp2_with fail;exact aE (v:=.agg (Eg v sl).toArray) (Ai results57 _ _ (w.heap.size+1) _ _ rfl Z2 underlying42 rfl aM) rfl Z1
theorem Qfy(w0:World)(b N:Nat)(p:Value)(S:List Ty)(t:List UInt8)(k:Kd)(w:World)(hw:Below w0 w0 w)(hb:w0.heap.size<=b)(h:D9 w b p t false)(hl:t.length<=900)(hN:t.length<=N)(hN2:N<=2000)(sg:List UInt8)(hs:k.signs=91::sg)(hsl:sg.length<=100)
  (H:IvC w0 b p S N k.part) (HG:∀s v r,Ap S 1000 N k.part s=some (v,r)->s=Ay v++r) (q:Option (Vl × List UInt8)) (hq:q=N3 (Ap S 1000 N k.part) 1000 t):
  Calls prog 57 #[b,Ey k] w (M5 w b p t (N+1) q):=by
 have HL:=Aa (fun W (h1:Below w0 w0 W) (h2:D9 W b p t false)=>Qhp w0 b N p S t k.part W h1 hb h2 hl hN hN2 H HG q hq);have HP:=Aa (fun W=>Mr k W 91 sg hs aG);have HS:=Aa h;have HW:=Aa hw;have hb0:=h.1;have hbn:¬(b=w.heap.size):=aG;have hbn2:¬(b=w.heap.size+1):=aG;have c2:=h.2.2.2.2;obtain⟨sg',bs,nm⟩:=k;simp only at hs;subst hs;generalize hkp:(⟨91::sg,bs,nm⟩:Kd).part=kp at *;unfold Ey at HP ⊢ HL;simp only at HP ⊢;clear h hq hw H HG hkp;go_enter func57,ntmps57;go_wp2_with fail;refine(Fc 91 sg aG _ _ _).mono ?_;rintro e w2 ⟨rfl,hb2⟩;have F2:=Aa ((Fy.init (k:=⟨91::sg,bs,nm⟩) HS.o).post hb2);clear hb2 c2;have k0:=Ab F2.o.2.1 0 rfl;have k1:=Ab F2.o.2.1 1 rfl;have k2:=Ab F2.o.2.1 2 rfl;simp only[am]at k0 k1 k2;go_wp2_with fail;refine(HP.o _).mono ?_;rintro e w3 ⟨rfl,hb3⟩;have F3:=Aa (F2.o.post hb3);clear hb3 k0 k1 k2;go_wp2_with fail;refine(HL.o _ (F3.o.1.env HW.o hb) F3.o.1.1).mono ?_;rintro e w4 ⟨v,sl,t',rfl,hk4,hs4,hx4,hB4,hl4,hn4⟩;obtain⟨A7,c7,rfl⟩:=hk4.form;have F4:=Aa (F3.o.step hb0 hs4);have hz3:=F3.o.2.2.2;have Hk4:=Aa hk4;have Hx4:=Aa hx4;have HB4:=Aa hB4;clear hs4 hk4 hx4 hB4;unfold Gy;go_wp2_with ((with_reducible refine Ad (op:=⟨none,.store 42 _ _,_,_,_,none⟩) rfl 42 _ _ rfl (w.heap.size+1) 0 (Eg v (.slice A7 v.kids.length c7)) ?_ ?_ ?_ ?_ ?_ ?_);rfl;rfl;(exact F4.o.2.2.1);kernel_rfl;(simp[Eg,Value.oneCell']);intro w9 HS9)
 have Z:=Fy.fin (t:=t) (N:=N+1) (v:=v) (sl:=.slice A7 v.kids.length c7) (r:=q) F4.o hb0 HS9.o (Hk4.o.mono fun c hc _=>by omega) rfl Hx4.o HB4.o hl4 hn4;exact aE (v:=.agg (Eg v (.slice A7 v.kids.length c7)).toArray) (Ai results57 _ _ (w.heap.size+1) _ _ rfl Z.2 underlying42 rfl aM) rfl Z.1
theorem Yg(w0:World)(b:Nat)(p:Value)(XS:List PT)(hsc:Q7 w0 p XS)(hS:Nv (Af XS))(hb:w0.heap.size<=b):∀(N:Nat),N<=2000->∀(k:Kd),Ch k->Ce (Af XS) k->IvC w0 b p (Af XS) N k:=by
 intro N;induction N with
 |zero=>
  intro _ k hk hr t bad w hw h hl hN;cases bad with
  |true=>exact Yn b 0 p t k w h
  |false=>exact absurd (hN rfl) (Nat.not_lt_zero _)
 |succ N ih=>
  intro hN2 k hk hr t bad w hw h hl hN;cases bad with
  |true=>exact Yn b (N+1) p t k w h
  |false=>
   have hN:=Nat.le_of_lt_succ (hN rfl);rw[if_neg aJ];have hTy:∀t∈Af XS,Do t:=hS.1.1;unfold Ap;cases hs:k.signs with
   |cons c sg=>
    simp only;have hsl:sg.length<=100:=by have:=hk.2.2;unfold Bt at this;rw[hs]at this;simp at this;omega
    have hp:=(Kb hk).1;have hrp:Ce (Af XS) k.part:=hr;rcases M7 hk hs with rfl|rfl
    ·rw[if_pos rfl];exact Qfy w0 b N p (Af XS) t k w hw hb h hl hN aG sg hs hsl (ih aG k.part hp hrp) (fun s v r h=>(Gn hTy 1000 N k.part s v r hp h).2) _ rfl
    rw[if_neg aJ];exact Qff w0 b N p (Af XS) t k w hw hb h hl hN aG sg hs hsl (ih aG k.part hp hrp) _ rfl
   |nil=>
    simp only;by_cases h1:k.base=[110]
    ·rw[if_pos h1];exact Qjr b N p t k w h hl hs h1 _ rfl
    rw[if_neg h1];by_cases h2:k.base=[116]
    ·rw[if_pos h2];exact Qkm b N p t k w h hl hs h2 _ rfl
    rw[if_neg h2];by_cases h3:k.base=[102]
    ·rw[if_pos h3];exact Qj7 b N p t k w h hl hs h3 _ rfl
    rw[if_neg h3];have h64:k.base=[64]:=by
     rcases hk.2.1 with h|⟨h|h|h,_⟩
     ·exact h.1
     ·exact absurd h h1
     ·exact absurd h h2
     exact absurd h h3
    have hnm:k.name.length<=100:=by
     rcases hk.2.1 with h|⟨_,h⟩
     ·have:=(C7.1 h.2).2.1;omega
     rw[h];simp
    have hr2:=hr h64;rw[Jp]at hr2 ⊢;cases hx:Fi XS k.name with
    |none=>rw[hx]at hr2;cases hr2
    |some x=>
     simp only[Option.map_some];have hxm:=(Dz hx).1;have hxt:=(Dz hx).2.2;have hxi:Sv w0 x:=by obtain⟨_,_,_,_,_,_,_,_,_,_,h6,_⟩:=hsc;exact h6 x hxm
     have hto:=hTy x.ty (ao hxm);refine Qf2 w0 b N p XS hsc t k w hw hb h hl hs h64 hnm x hx _ fun W hW hSc=>?_;have htg:∀f∈x.ty.fields,f.tag<=200:=fun f hf=>(hto.2.2.1.1 f hf).2.1;by_cases h9:x.ty.sort=69
     ·exact Qk7 w0 b N p (Af XS) x hxi h9 t W hW hb hSc hl _ rfl
     have hfk:∀f∈x.ty.fields,Ch f.kind/\Ce (Af XS) f.kind/\f.given.length<=1000:=fun f hf=>
      ⟨(Py hTy hxt h9 hf).1,hS.2.1 x.ty (Be hxt).1 h9 f hf,by have:=Qj8 (hto.2.2.1.1 f hf);omega⟩
     have HF:∀f∈x.ty.fields,IvC w0 b p (Af XS) N f.kind:=fun f hf=>ih aG f.kind (hfk f hf).1 (hfk f hf).2.1;by_cases h5:x.ty.sort=85
     ·exact Qjj w0 b N p (Af XS) x hxi h5 t W hW hb hSc hl hN aG htg HF _ rfl
     have h82:x.ty.sort=82:=by
      rcases hto.1 with h|h|h
      ·exact h
      ·exact absurd h h5
      exact absurd h h9
     exact Qlp w0 b N p XS hsc hS x hxi h82 t W hW hb hSc hl hN aG htg hfk HF (fun f hf s v r h=>(Gn hTy 1000 N f.kind s v r (hfk f hf).1 h).2) _ rfl
theorem Qkj(s:List UInt8):s.dropWhile (Qgi.contains ·)=s.dropWhile Br:=by congr 1;funext c;exact Qc7 c
theorem Rk(b:Nat)(p:Value)(t:List UInt8)(bad:Bool)(w:World)(h:D9 w b p t bad)(hl:t.length<=4000000):
  Calls prog 59 #[b] w fun e w'=>e=.returned (.string ⟨(t.takeWhile Br).toArray⟩)/\Dn w b p (t.dropWhile Br) bad w':=by
 have Htl:=Aa (fun W=>Mk t Qgi W aJ aJ);simp only[Qkj]at Htl;obtain⟨htk,hdl⟩:=Qs Br t;have Htk:=Aa htk;unfold Qgi at Htl;have HS:=Aa h;have kw:IntKind.i64.wrap ((t.length:Int) - ((t.dropWhile Br).length:Int))=(t.length:Int) - ((t.dropWhile Br).length:Int):=IntWalk.i64_in _ aG;have k1:(0:Int)<=(t.length:Int) - ((t.dropWhile Br).length:Int):=aG;have k2:(t.length:Int) - ((t.dropWhile Br).length:Int)<=(t.length:Int):=aG;have k3:((t.length:Int) - ((t.dropWhile Br).length:Int)).toNat=t.length - (t.dropWhile Br).length:=aG;generalize t.takeWhile Br=a at *;generalize t.dropWhile Br=r at *;obtain⟨h0,h1,h2,h3,h4⟩:=h;clear htk h1;go_enter func59,ntmps59;go_wp2_with fail;refine(Htl.o _).mono ?_;rintro e w1 ⟨rfl,hb1⟩;have HS1:=Aa (HS.o.grow hb1);have Hb1:=Aa hb1;have c1:=(hb1.cell (p:=⟨b,1,none⟩) h0).trans h3;have hz1:b<w1.heap.size:=by have:=hb1.size;omega
 clear hb1 HS h2 h3 h4;go_wp2_with fail;refine rgD ?_;iterate 12 refine sq ?_
 refine Ga (fun v=>v=a) (by
  intro l u W hl hp hF hG hi K hK;simp[Region.binds,Cg]at hp;go_simp;rw[Htk.o];exact hK _ _ _ rfl hF.o br) ?_
 refine sq ?_;refine Xi fun w2 HW=>?_;obtain⟨k,hk⟩:=HW.o;have HS2:=Aa (show D9 w2 b p t bad by rw[hk];exact HS1.o.drew k);have Hb2:=Aa (show Below w w w2 by rw[hk];exact below_drewN Hb1.o k);obtain⟨q0,q1,_,q3,_⟩:=HS2.o;have hf1:=q1.live 1;clear q1 hk HW;go_wp2_with fail;go_ret;exact⟨rfl,by simpa using HS2.o.setText r,(Dc Hb2.o _).trans (Al _ _ _ _)⟩
theorem Nq(w0:World)(x:PT)(hx:Sv w0 x)(n:List UInt8)(w:World)(hb:Below w0 w0 w):
  Calls prog 58 #[x.blk,n] w (Qg3 w0.heap.size (Gz x.ty.fields n) w):=by
 obtain⟨z0,_,_,_,z3,_,A,c,hfv,hl,hr⟩:=hx;rw[hfv]at z3;have c2:w.cell? (x.blk,2)=some (.slice A x.ty.fields.length c):=(hb.cell (p:=⟨x.blk,2,none⟩) z0).trans z3;have Hr:=Aa hr;have Hb:=Aa hb;clear hr hfv z3 hb;go_enter func58,ntmps58;go_wp2_with fail;go_loop [11,5] (fun i _=>∃k:Nat,i=.int .i64 k/\k<=x.ty.fields.length/\Hid (∀f∈x.ty.fields.take k,decide (f.name=n)=false)) (fun i _=>x.ty.fields.length - (intOf i).toNat)
 case atStart=>exact⟨0,rfl,ag _,by intro f hf;simp at hf⟩
 case round=>
  obtain⟨k,rfl,hk,hin⟩:=hrel;by_cases hlt:k<x.ty.fields.length
  ·obtain⟨b,off,rfl,hbl,hrg⟩:=Sx.range Hr.o hlt;have hrw:=Au hrg hbl Hb.o;have c1:w.cell? ⟨b,off+k*6+1,none⟩=some (.string ⟨(x.ty.fields[k]).name.toArray⟩):=Ab hrw 1 rfl;have k1:(0:Int)<=(k:Int):=aG;have k2:(k:Int)<(x.ty.fields.length:Int):=aG;have Hrw:=Aa hrw;have Hts:=Aa (Bx x.ty.fields k hlt);have Hfk:=@Aa (x.ty.fields[k]?=some x.ty.fields[k]) (List.getElem?_eq_getElem hlt);clear hrw hrg;generalize x.ty.fields[k]=f at *;by_cases he:f.name=n
   ·have t1:(f.name == n)=true:=cM
    have Hfin:=Aa (show Gz x.ty.fields n=some f from by
     unfold Gz;rw[List.find?_eq_some_iff_getElem];exact⟨by simpa using he,k,hlt,by have:=Hfk.o;rw[List.getElem?_eq_getElem hlt]at this;exact Option.some.inj this,fun j hj=>by have:=hin.o x.ty.fields[j] (List.mem_take_iff_getElem.2 ⟨j,by omega,rfl⟩);simpa using this⟩)
    have he':=Aa he;clear he;go_wp2_with fail;exact lI
   have t1:(f.name == n)=false:=cM
   have Hin:=Aa (show ∀g∈x.ty.fields.take (k+1),decide (g.name=n)=false by
    intro g hg;rw[Hts.o]at hg;rcases af.1 hg with hg|hg
    ·exact kx
    simp at hg;subst hg;simpa using he)
   clear he;go_wp2_with fail;go_round
   case rel=>exact⟨k+1,by go_num,by omega,Hin.o⟩
   case measure=>simp[intOf];omega
  ·have Hfin:=@Aa (Gz x.ty.fields n=none) (List.find?_eq_none.2 (fun f hf=>by have:=hin.o f cN;simpa using this));go_wp2_with fail;go_ret;exact⟨_,rfl,by rw[Hfin.o];rfl,rfl⟩
def ixL(l:List Nat)(n:Nat):Int:=match l.findIdx? (fun m=>decide (m=n))with|some i=>(i:Int)|none=>-1
theorem Qmd(l:List Nat)(n:Nat):decide (0<=ixL l n)=decide (n∈l):=by
 rw[decide_eq_decide];unfold ixL;cases h:l.findIdx? (fun m=>decide (m=n))with
 |none=>
  rw[List.findIdx?_eq_none_iff]at h;simp only[decide_eq_false_iff_not]at h;exact⟨fun h2=>absurd h2 aL,fun h2=>absurd rfl (h n h2)⟩
 |some i=>
  rw[List.findIdx?_eq_some_iff_getElem]at h;obtain⟨hi,h1,_⟩:=h;simp only[decide_eq_true_iff]at h1;exact⟨fun _=>h1 ▸ ae hi,fun _=>by simp⟩
theorem Qfx(A:Option Addr)(c:Nat)(l:List Nat)(n:Nat)(w:World)(hr:Bh w A l.length (De l))(hl:l.length<=1000)(hn:n<=1000000)(hln:∀m∈l,m<=1000000):
  Calls prog 133 #[.slice A l.length c,(n:Int)] w fun e w'=>e=.returned (.int .i64 (ixL l n))/\w=w':=by
 have Hr:=Aa hr;have Hln:=Aa hln;clear hr hln;go_enter func133,ntmps133;go_wp2_with fail;go_loop [8,5] (fun i _=>∃k:Nat,i=.int .i64 k/\k<=l.length/\Hid (∀m∈l.take k,decide (m=n)=false)) (fun i _=>l.length - (intOf i).toNat)
 case atStart=>exact⟨0,rfl,ag _,by intro f hf;simp at hf⟩
 case round=>
  obtain⟨k,rfl,hk,hin⟩:=hrel;by_cases hlt:k<l.length
  ·obtain⟨b,off,rfl,hb,hc⟩:=Hr.o.2.2 aG;have c0:w.cell? ⟨b,off+k,none⟩=some (.int .i64 (l[k]:Int)):=hc k _ (by simp[De,hlt]);have k1:(0:Int)<=(k:Int):=aG;have k2:(k:Int)<(l.length:Int):=aG;have hm:=Hln.o _ (ae hlt);have Hts:=Aa (Bx l k hlt);have Hfk:=@Aa (l[k]?=some l[k]) (List.getElem?_eq_getElem hlt);clear hc;generalize l[k]=m at *;by_cases he:m=n
   ·have t1:((n:Int) == (m:Int))=true:=by simp[he]
    have Hfin:=Aa (show ixL l n=(k:Int)from by
     have h:l.findIdx? (fun m=>decide (m=n))=some k:=by
      rw[List.findIdx?_eq_some_iff_getElem];refine⟨hlt,?_,fun j hj=>?_⟩
      ·have:=Hfk.o;rw[List.getElem?_eq_getElem hlt]at this;rw[Option.some.inj this];simpa using he
      have:=hin.o l[j] (List.mem_take_iff_getElem.2 ⟨j,by omega,rfl⟩);simpa using this
     unfold ixL;rw[h])
    clear he;go_wp2_with fail;go_ret;exact⟨by rw[Hfin.o];rfl,rfl⟩
   have t1:((n:Int) == (m:Int))=false:=bY
   have Hin:=Aa (show ∀g∈l.take (k+1),decide (g=n)=false by
    intro g hg;rw[Hts.o]at hg;rcases af.1 hg with hg|hg
    ·exact kx
    simp at hg;subst hg;simpa using he)
   clear he;go_wp2_with fail;go_round
   case rel=>exact⟨k+1,by go_num,by omega,Hin.o⟩
   case measure=>simp[intOf];omega
  ·have Hfin:=Aa (show ixL l n = -1 from by
    have h:l.findIdx? (fun m=>decide (m=n))=none:=List.findIdx?_eq_none_iff.2 (fun f hf=>hin.o f cN);unfold ixL;rw[h])
   go_wp2_with fail;go_ret;exact⟨by rw[Hfin.o];rfl,rfl⟩
theorem Nx(A:Option Addr)(c:Nat)(l:List Nat)(n:Nat)(w:World)(hr:Bh w A l.length (De l))(hl:l.length<=1000)(hn:n<=1000000)(hln:∀m∈l,m<=1000000):
  Calls prog 101 #[.slice A l.length c,(n:Int)] w fun e w'=>e=.returned (.bool (decide (n∈l)))/\w=w':=by
 have HI:=Aa (Qfx A c l n w hr hl hn hln);have HX:=Aa (Qmd l n);generalize ixL l n=z at *;clear hr hln;go_enter func101,ntmps101;go_wp2_with fail;refine HI.o.mono ?_;rintro e w1 ⟨rfl,rfl⟩;go_wp2_with fail;go_ret;exact⟨by rw[<-HX.o];rfl,rfl⟩
def Nj(w:World)(b:Nat)(p:Value)(t:List UInt8)(r:Option (Vl × List UInt8))(e:Ending)(w':World):Prop:=
 ∃(v:Vl) (sl:Value) (t':List UInt8),e=.returned (Gy v sl)/\Dt (fun c=>w.heap.size<=c) w' sl v.kids/\Dn w b p t' r.isNone w'/\(∀x,r=some x->v=x.1/\t'=x.2)/\t'.length<=t.length
def IuC(w0:World)(b:Nat)(p:Value)(S:List Ty)(d:Nat)(k:Kd):Prop:=
 ∀(t:List UInt8) (bad:Bool) (w:World) (dp:Nat),dp+d=13->Below w0 w0 w->D9 w b p t bad->t.length<=700 ->
  Calls prog 24 #[b,Ey k,(dp:Int)] w (Nj w b p t (if bad then none else Ci S d k t))
theorem Fy.finU{w W w9:World}{b:Nat}{p:Value}{k:Kd}{t t':List UInt8}{bad':Bool}{v:Vl}{sl:Value}{r:Option (Vl × List UInt8)}(F:Fy w b p k t' bad' W)(hb:b<w.heap.size)(HS:w9=W.setCells (w.heap.size+1) 0 (Eg v sl))
  (hv:Dt (fun c=>w.heap.size+2<=c) W sl v.kids) (hr:bad'=r.isNone) (hx:∀x,r=some x->v=x.1/\t'=x.2) (hl:t'.length<=t.length):
  Nj w b p t r (.returned (.agg (Eg v sl).toArray)) w9/\w9.rangeAt (w.heap.size+1) 0 (Eg v sl):=by
 subst HS hr;exact⟨⟨v,sl,t',rfl,(hv.set (B:=w.heap.size+1) aG _).mono fun c hc _=>by omega,F.1.set aG aG _,hx,hl⟩,ab _ _ _ _ F.2.2.1⟩
theorem Qh7{S:List Ty}{k:Kd}(hk:Ch k)(hs:k.signs=[])(hb:k.base≠[64])(t:List UInt8):Ap S 1000 901 k t=Ap S 1000 1 k t:=by
 have h3:k.base=[110]\/k.base=[116]\/k.base=[102]:=by
  rcases hk.2.1 with⟨h,_⟩|⟨h,_⟩
  ·exact absurd h hb
  exact h
 unfold Ap;rw[hs];simp only;rcases h3 with h|h|h<;>simp[h]
theorem Qgz(b:Nat)(p:Value)(t:List UInt8)(bad:Bool)(k:Kd)(dp:Nat)(hdp:dp<=13)(hbd:bad=true\/dp=13)(w:World)(h:D9 w b p t bad):
  Calls prog 24 #[b,Ey k,(dp:Int)] w (Nj w b p t none):=by
 have HS:=Aa h;obtain⟨h0,h1,h2,h3,h4⟩:=h;have hbn:¬(b=w.heap.size):=aG;have hbn1:¬(b=w.heap.size+1):=aG;have hf2:=h1.live 2;have HF0:=Aa (Fy.init (k:=k) HS.o (T:=39) (U:=42));have hb0:=h0;clear h1 h2 h3;have Hs1:=@Aa (Dn w b p t true (w.setCell ⟨b,2,none⟩ (.bool true))) ⟨HS.o.setBad true,Al _ b 2 _⟩;clear HF0;unfold Ey;cases bad with
 |true=>
  go_enter func24,ntmps24;go_wp2_with fail;have F:=Fy.init (k:=k) Hs1.o.1 (T:=39) (U:=42);refine aE (v:=.agg (Eg Fp (.slice none 0 0)).toArray) ?_ rfl ⟨Fp,.slice none 0 0,t,rfl,Dt.nil _ _,Hs1.o.trans F.1,aL,Ar _⟩;refine Ai results24 _ _ (w.heap.size+1) _ _ rfl ?_ underlying42 rfl aM;have:=Ca ((w.setCell ⟨b,2,none⟩ (.bool true)).alloc (.cells #[k.signs,k.base,k.name] 39)) [.int .u8 0,aa,.int .i64 0,.slice none 0 0] 42;simpa [Eg,Fp,Vl.what,Vl.text,Vl.tag]using this
 |false=>
  obtain rfl:dp=13:=hbd.resolve_left aJ;go_enter func24,ntmps24;go_wp2_with fail;have F:=Fy.init (k:=k) Hs1.o.1 (T:=39) (U:=42);refine aE (v:=.agg (Eg Fp (.slice none 0 0)).toArray) ?_ rfl ⟨Fp,.slice none 0 0,t,rfl,Dt.nil _ _,Hs1.o.trans F.1,aL,Ar _⟩;refine Ai results24 _ _ (w.heap.size+1) _ _ rfl ?_ underlying42 rfl aM;have:=Ca ((w.setCell ⟨b,2,none⟩ (.bool true)).alloc (.cells #[k.signs,k.base,k.name] 39)) [.int .u8 0,aa,.int .i64 0,.slice none 0 0] 42;simpa [Eg,Fp,Vl.what,Vl.text,Vl.tag]using this
def Z9(a b:Df):Int:=if a<b then -1 else if b<a then 1 else 0
theorem Qau(a:List UInt8)(w:World):Calls prog 113 #[.string ⟨a.toArray⟩] w fun e w'=>e=.returned (.bool false)/\w'=w:=by
 have t1:(a != a)=false:=by simp
 go_enter func113,ntmps113
 go_wp2_with fail
 go_ret
 exact⟨rfl,rfl⟩
theorem Qma(a b:List UInt8)(w:World):Calls prog 76 #[.string ⟨a.toArray⟩,.string ⟨b.toArray⟩] w fun e w'=>e=.returned (.int .i64 (Z9 a b))/\w'=w:=by
 have HV:=Aa (rfl:Z9 a b=Z9 a b)
 have hcv:Hid (Z9 a b=if a<b then -1 else if b<a then 1 else 0):=rfl
 go_enter func76,ntmps76
 go_wp2_with fail
 refine(Qau a _).mono ?_
 rintro e w1 ⟨rfl,rfl⟩
 go_wp2_with fail
 refine(Qau b _).mono ?_
 rintro e w1 ⟨rfl,rfl⟩
 by_cases h1:a<b
 ·have t1:Op.bytesLess a b=true:=by rw[bytesLess_eq];simpa using h1
  go_wp2_with fail
  go_ret
  exact⟨by rw[hcv.o,if_pos h1];rfl,rfl⟩
 have t1:Op.bytesLess a b=false:=by rw[bytesLess_eq];simpa using h1
 by_cases h2:b<a
 ·have t2:Op.bytesLess b a=true:=by rw[bytesLess_eq];simpa using h2
  have t3:(a == b)=false:=by
   simp only[beq_eq_false_iff_ne]
   intro e
   rw[e]at h2
   exact List.lt_irrefl b h2
  go_wp2_with fail
  go_ret
  exact⟨by rw[hcv.o,if_neg h1,if_pos h2];rfl,rfl⟩
 have t2:Op.bytesLess b a=false:=by rw[bytesLess_eq];simpa using h2
 have t3:(a == b)=true:=by simpa using List.le_antisymm (List.not_lt.1 h2) (List.not_lt.1 h1)
 go_wp2_with fail
 go_ret
 exact⟨by rw[hcv.o,if_neg h1,if_neg h2];rfl,rfl⟩
theorem S9(w0:World)(x:PT)(hx:Sv w0 x)(n:Nat)(hn:n<=1000000000)(f:Fd)(hf:Bj x.ty.fields n=some f):∃b o,b<w0.heap.size/\w0.rangeAt b o (Sp f)/\∀W,Below w0.heap.size w0 W ->
  Calls prog 38 #[.pointer (some ⟨x.blk,0,none⟩),.int .i64 n] W fun e w'=>e=.returned (.pointer (some ⟨b,o,none⟩))/\W=w':=by
 obtain⟨z0,_,_,_,z3,_,A,c,hfv,hl,hr⟩:=hx
 rw[hfv]at z3
 unfold Bj at hf
 obtain⟨hp,j,hj,hfj,hlt⟩:=List.find?_eq_some_iff_getElem.1 hf
 obtain⟨b,off,rfl,hbl,hrg⟩:=Sx.range hr hj
 rw[hfj]at hrg
 refine⟨b,off+j*6,hbl,hrg,fun W hW=>?_⟩
 have c2:W.cell? ⟨x.blk,2,none⟩=some (.slice (some ⟨b,off,none⟩) x.ty.fields.length c):=(hW.cell (p:=⟨x.blk,2,none⟩) z0).trans z3
 have Hr:=Aa hr
 have Hb:=Aa hW
 have Hlt:=Aa hlt
 have Htag:=Aa (show f.tag=n from by simpa using hp)
 have Hfj:=Aa hfj
 clear hr hfv z3 hW hlt hp hfj hf hrg
 go_enter func38,ntmps38
 go_wp2_with fail
 go_loop [11] (fun i=>∃k:Nat,i=.int .i64 k/\k<=j) (fun i=>x.ty.fields.length - (intOf i).toNat)
 case atStart=>exact⟨0,rfl,Nat.zero_le _⟩
 case round=>
  obtain⟨k,rfl,hk⟩:=hrel
  have hkl:k<x.ty.fields.length:=by omega
  obtain⟨b',off',e',hbl',hrg'⟩:=Sx.range Hr.o hkl
  injection e' with e'
  injection e' with e1 e2
  subst e1 e2
  have c0:W.cell? ⟨b,off+k*6,none⟩=some (.int .i64 ((x.ty.fields[k]).tag:Int)):=by simpa using Ab (Au hrg' hbl' Hb.o) 0 rfl
  have k1:(0:Int)<=(k:Int):=by omega
  have k2:(k:Int)<(x.ty.fields.length:Int):=by omega
  clear hrg'
  by_cases he:k=j
  ·subst he
   rw[Hfj.o,Htag.o]at c0
   have t1:((n:Int) == (n:Int))=true:=by simp
   go_wp2_with fail
   go_ret
   exact⟨rfl,rfl⟩
  ·have hne:(x.ty.fields[k]).tag≠n:=by have:=Hlt.o k (by omega);simpa using this
   have t1:(((x.ty.fields[k]).tag:Int) == (n:Int))=false:=by rw[beq_eq_false_iff_ne];omega
   generalize (x.ty.fields[k]).tag=tk at *
   clear hne
   go_wp2_with fail
   go_round
   case rel=>exact⟨k+1,by go_num,by omega⟩
   case measure=>simp[intOf];omega
theorem Qm9(w0:World)(x:PT)(hx:Sv w0 x)(Bp:Nat)(hB:w0.cell? (Bp,0)=x.blk)(hBl:Bp<w0.heap.size)(u v:Vl × Value)(f g:Fd)(hu1:u.1.tag<=1000000000)(hv1:v.1.tag<=1000000000)
  (hf:Bj x.ty.fields u.1.tag=some f) (hg:Bj x.ty.fields v.1.tag=some g) (W:World) (hW:Below w0 w0 W) (hus:∃A n c,u.2=.slice A n c) (hvs:∃A n c,v.2=.slice A n c):
  Calls prog 75 #[.agg (Dl u).toArray,.agg (Dl v).toArray,Bp] W fun e w'=>e=.returned (.int .i64 (Z9 f.name g.name))/\∃q,w'=((W.alloc (.cells (Dl u).toArray 42)).alloc (.cells (Dl v).toArray 42)).drewN q:=by
 obtain⟨p,o,hp,hpr,HF⟩:=S9 w0 x hx u.1.tag hu1 f hf;obtain⟨q,o2,hq,hqr,HG⟩:=S9 w0 x hx v.1.tag hv1 g hg;obtain⟨w1,hw1⟩:∃w1,w1=(W.alloc (.cells (Dl u).toArray 42)).alloc (.cells (Dl v).toArray 42):=⟨_,rfl⟩
 rw[<-hw1];have hb1:Below W W w1:=by rw[hw1];exact((Aw _ _).alloc (Ar _) _).alloc aL _
 have hb0:=hW.trans (hb1.mono hW.size);have cB:=(hb0.cell (p:=⟨Bp,0,none⟩) hBl).trans hB;have ca:w1.cell? ⟨p,o+1,none⟩=f.name:=(hb0.cell (p:=⟨p,o+1,none⟩) hp).trans (Ab hpr 1 rfl);have cb:w1.cell? ⟨q,o2+1,none⟩=g.name:=(hb0.cell (p:=⟨q,o2+1,none⟩) hq).trans (Ab hqr 1 rfl);obtain⟨uv,us⟩:=u;obtain⟨vv,vs⟩:=v;obtain⟨A5,n5,c5,rfl⟩:=hus;obtain⟨A6,n6,c6,rfl⟩:=hvs;have c3:w1.cell? (W,2)=(uv.tag:Int):=by rw[hw1];simp[Dl,go_sem]
 have c4:w1.cell? (W,1,2)=(vv.tag:Int):=by rw[hw1];simp[Dl,go_sem]
 have HF:=Aa (fun V (hV:∃k,V=w1.drewN k)=>(HF V gk).mono fun e w' h=>(⟨h.1,0,h.2.symm⟩:_/\∃k,w'=V.drewN k));have HG:=Aa (fun V (hV:∃k,V=w1.drewN k)=>(HG V gk).mono fun e w' h=>(⟨h.1,0,h.2.symm⟩:_/\∃k,w'=V.drewN k));have HC:=Aa (fun V (hV:∃k,V=w1.drewN k)=>(Qma f.name g.name V).mono fun e w' h=>(⟨h.1,0,h.2⟩:_/\∃k,w'=V.drewN k));have Hw1:=Aa hw1;clear hw1 hb1 hb0 hW hB hx hf hg hpr hqr;unfold Dl;go_enter func75,ntmps75;go_wp2_with fail;generalize hwg:World.alloc (World.alloc W _) _=wg;obtain rfl:w1=wg:=Hw1.o.trans hwg;clear hwg;refine rgD ?_;iterate 3 refine sq ?_
 refine sqD HF.o ?_;iterate 6 refine sq ?_
 refine sqD HG.o ?_;iterate 3 refine sq ?_
 refine sqD HC.o ?_;refine sq ?_;refine Xi fun W5 HB=>?_;go_wp2_with fail;go_ret;exact⟨rfl,HB.o⟩
end
section
open Go.RowKit Go.Sort
attribute [local go_sem] Qo1 Qof Qnv Qlx ByteArray.mk_append_mk
theorem Qf4{α:Type}[Inhabited α]{enc:α->List Value}{k:Nat}(hk:∀x,(enc x).length=k)(hk0:0<k){w:World}{base g c n:Nat}{e:TypeId}{d:Array α}(h:w.ownsRow base e k (.slice (g,0) n c) n (d.toList.flatMap enc))(hd:d.size=n):HoldsK enc k w g 0 d/\g<w.heap.size/\base<=g:=by
 have hc:=h.cells (g:=g) rfl;have hl:=h.lt g rfl;refine⟨fun j hj=>?_,hl.2,hl.1⟩;rw[size_flatK]at hj;rw[get_flatK _ _ _ _ hj];have h1:j / k<d.size:=by rw[Nat.div_lt_iff_lt_mul hk0];exact hj
 have h2:j % k<k:=Nat.mod_lt _ hk0;have h3:=Nt hk d.toList (j / k) (j % k) dM h2;rw[Nat.div_add_mod']at h3;have e1:(enc d.toList[j / k])[j % k]?=some ((enc d[j / k]!)[j % k]!):=by
  rw[getElem!_pos d (j / k) h1,getElem!_pos _ (j % k) (by rw[hk];exact h2)];simp[hk,h2]
 rw[e1]at h3;have h4:=hc j _ h3;rw[Addr.add_lit]at h4;refine⟨h4,?_⟩;rcases h.2 with⟨h0,_⟩|⟨g2,cap,cur,hv,hb,hg,_⟩
 ·cases h0
 injection hv with e1 e2 e3;injection e1 with e1;injection e1 with e1;subst e1;simp[World.frozen?,hg]
theorem Ql2{α:Type}[Inhabited α]{enc:α->List Value}{k:Nat}(hk:∀x,(enc x).length=k)(hk0:0<k){w:World}{g:Nat}{d:Array α}(h:HoldsK enc k w g 0 d)(hg:g<w.heap.size)(hm:d.size*k<=maxLen):Bh w (g,0) (d.size*k) (d.toList.flatMap enc):=by
 refine⟨by rw[Fo hk];simp,hm,fun _=>⟨g,0,rfl,hg,fun j u hj=>?_⟩⟩;have hl:=(List.getElem?_eq_some_iff.1 hj).1;rw[Fo hk]at hl;have hl:j<d.size*k:=eJ;have h1:j / k<d.size:=by rw[Nat.div_lt_iff_lt_mul hk0];exact hl
 have h2:j % k<k:=Nat.mod_lt _ hk0;have h3:=Nt hk d.toList (j / k) (j % k) dM h2;rw[Nat.div_add_mod',hj]at h3;have h4:=(h.cell (i:=j / k) (c:=j % k) h1 h2).1;rw[am,Nat.div_add_mod']at h4;rw[am,h4,h3,getElem!_pos d (j / k) h1,getElem!_pos _ (j % k) (by rw[hk];exact h2)];simp[hk,h2]
theorem Vx{α:Type}[Inhabited α](enc:α->List Value)(k:Nat)(w:World)(n blk:Nat)(d:Array α)(os:Array Obj):w.grownBy (sortWorldK enc k w blk 0 n d os) (some blk):=by
 unfold sortWorldK putRowK;refine⟨rfl,rfl,rfl,by simp,fun j hj hne=>?_⟩;rw[heap_grow_old _ _ (by simpa using hj)];have:blk≠j:=fun e=>hne (by rw[e]);simp[putRow,mapBlock,Array.getElem?_modify,this]
def Qbp(B:Nat):Value:=.func (.func 75) #[] #[B]
theorem Qlk(A:Option Addr)(c B:Nat)(w:World):Calls prog 140 #[.slice A 0 c,.int .i64 0,.int .i64 0,Qbp B] w fun e w'=>e=.returned (.tuple #[])/\w'=w:=by
 go_enter func140,ntmps140;go_wp2_with fail;refine wp_loop_rounds 1 ?_;rw[rounds_succ];go_wp2_with fail;apply bodyPost_end;rotate_left
 ·rfl
 ·exact⟨rfl,rfl⟩
 exact lN
theorem Qkr(A:Option Addr)(c B:Nat)(m:Int)(w:World):Calls prog 111 #[.slice A 0 c,.int .i64 0,.int .i64 0,.int .i64 m,Qbp B] w fun e w'=>e=.returned (.tuple #[])/\w'=w:=by
 go_enter func111,ntmps111;go_wp2_with fail;refine wp_loop_rounds 1 ?_;rw[rounds_succ];go_wp2_with fail;refine(Qlk A c B _).mono ?_;rintro e w1 ⟨rfl,rfl⟩;go_wp2_with fail;refine aE (results_none aM _ _ _) rfl ?_;exact kH
theorem Qh9(A:Option Addr)(c B:Nat)(w:World):Calls prog 74 #[.slice A 0 c,Qbp B] w fun e w'=>e=.returned (.tuple #[])/\w'=w:=by
 go_enter func74,ntmps74;go_wp2_with fail;refine(Any.bits_Len Tryz.lays125 0 _ aG aG).mono ?_;rintro e w1 ⟨rfl,rfl⟩;go_wp2_with fail;refine(Qkr A c B _ _).mono ?_;rintro e w1 ⟨rfl,rfl⟩;go_wp2_with fail;go_end0
 exact kH
theorem Tryz.infoVl:(prog.info? 42).map (fun i=>(i.zero,i.size,i.bytes))=some (some (.agg #[.int .u8 0,aa,.int .i64 0,.slice none 0 0]),4,56):=aM
theorem Qeu(A:Option Addr)(c:Nat)(w:World):Calls prog 73 #[.slice A 0 c] w fun e w'=>(∃A' c',e=.returned (.slice A' 0 c'))/\Below w w w':=by
 have q22:∀(w:World) (a:Option Addr) (n c n' c':Nat),(binOp .eql 40 (.slice a n c) (.slice none n' c')).run prog w=.ok (.bool a.isNone) w:=fun w a n c n' c'=>Lib.run_eql_slice_nil w _ _ a n c n' c' underlying40;cases A with
 |none=>
  go_enter func73,ntmps73;go_wp2_with fail;go_ret;exact⟨⟨_,_,rfl⟩,Aw _ _⟩
 |some a=>
  obtain⟨i0,hi,hz0,hz1,hz2⟩:=info_parts Tryz.infoVl;go_enter func73,ntmps73;go_wp2_with (at_builtin;refine wpList_append_own _ rfl _ _ 40 rfl w 42 i0 _ 4 56 underlying40 hi hz0 hz1 hz2 rfl aJ _ 0 [] rfl (World.ownsRow_made w #[] 0 (Ar _) (ag _) aL) a 0 c [] rfl rfl aL aL aJ aJ aL ?_;intro v' w1 hown hgrow hnil)
  go_ret;refine⟨?_,((Aw _ w).alloc (Ar _) _).grown hgrow aL (fun k hk=>Nat.le_of_eq (show w.heap.size=k by injection hk))⟩;rcases hown.2 with⟨rfl,_⟩|⟨g,cap,cur,rfl,_⟩
  ·exact⟨_,_,rfl⟩
  exact⟨_,_,rfl⟩
theorem Xw{α:Type}(key:α->List UInt8)(x y:α):ltOf (fun x y:α=>Z9 (key x) (key y)) x y=decide (key x<key y):=by
 unfold ltOf Z9;by_cases h:key x<key y
 ·simp[h]
 by_cases h2:key y<key x<;>simp[h,h2]
theorem Qle{α:Type}(key:α->List UInt8):SWO (ltOf fun x y:α=>Z9 (key x) (key y)):=by
 refine⟨fun x=>by rw[Xw];simp[List.lt_irrefl],fun x y z h1 h2=>?_,fun x y z h1 h2=>?_⟩
 ·rw[Xw]at *;simp at *;exact List.lt_trans h1 h2
 rw[Xw]at *;simp at *;exact List.le_trans h2 h1
theorem Qe7(w0 w1:World)(x:PT)(hx:Sv w0 x)(Bp:Nat)(hB:w0.cell? (Bp,0)=x.blk)(hBl:Bp<w0.heap.size)(hb1:Below w0 w0 w1)(nm:Nat->List UInt8)(xs:List (Vl × Value))(hn:∀y∈xs,y.1.tag<=1000000000/\(∃f,Bj x.ty.fields y.1.tag=some f/\f.name=nm y.1.tag)/\∃A n c,y.2=.slice A n c)
  (hd:∀a∈xs,∀b∈xs,nm a.1.tag=nm b.1.tag->a=b) (h12:xs.length<=12) (h0:0<xs.length) (g c:Nat) (hown:w1.ownsRow w0 42 4 (.slice (g,0) xs.length c) xs.length (xs.flatMap Dl)):
  Calls prog 74 #[.slice (g,0) xs.length c,Qbp Bp] w1 fun e w'=>e=.returned (.tuple #[])/\Bh w' (g,0) (xs.length*4) ((Gg (fun y=>nm y.1.tag) xs).flatMap Dl)/\w1.grownBy w' (some g):=by
 obtain⟨x0,hx0⟩:∃x0,x0∈xs:=List.exists_mem_of_length_pos h0;haveI:Inhabited {y:Vl × Value // y∈xs}:=⟨⟨x0,hx0⟩⟩
 let enc:{y:Vl × Value // y∈xs}->List Value:=fun y=>Dl y.1
 have henc:∀y,(enc y).length=4:=fun y=>rfl;have hh:xs.flatMap Dl=(xs.attach.toArray).toList.flatMap enc:=by
  show _=xs.attach.flatMap (fun y=>Dl y.1);rw[show xs.attach.flatMap (fun y=>Dl y.1)=(xs.attach.map Subtype.val).flatMap Dl by rw[List.flatMap_map],List.attach_map_subtype_val]
 have hown':=hown;rw[hh]at hown';obtain⟨q1,q2,q3⟩:=Qf4 (d:=xs.attach.toArray) henc aJ hown' aL;have hcmp:CmpLays prog 75 #[Bp] enc 4 (fun a b=>Z9 (nm a.1.1.tag) (nm b.1.1.tag)) g 0 xs.attach.toArray.size w1:=by
  intro m os dk hdk a b;obtain⟨ha1,⟨f,hf,hfn⟩,hal⟩:=hn a.1 a.2;obtain⟨hb1',⟨f2,hf2,hfn2⟩,hbl⟩:=hn b.1 b.2;have hW:Below w0 w0 (sortWorldK enc 4 w1 g 0 m dk os):=hb1.grown (Vx enc 4 w1 m g dk os) hb1.size (fun k hk=>by injection hk with hk;omega);refine(Qm9 w0 x hx Bp hB hBl a.1 b.1 f f2 ha1 hb1' hf hf2 _ hW hal hbl).mono ?_;rintro e w' ⟨he,q,hw⟩;refine⟨by rw[he,hfn,hfn2],q,#[.cells (Dl a.1).toArray 42]++#[.cells (Dl b.1).toArray 42],?_⟩;rw[hw,alloc_eq_grow,alloc_eq_grow,grow_grow];rfl
 have hS:=AnyQ.slices_SortFunc_small_sorted Tryz.laysF6 4 isAgg42 sizeOf42 enc henc (fun y v hv=>by
  obtain⟨_,_,A,n,c,e⟩:=hn y.1 y.2;simp only[enc,Dl,az,List.not_mem_nil,or_false]at hv;rcases hv with rfl|rfl|rfl|rfl
  ·rfl
  ·rfl
  ·rfl
  ·rw[e];rfl) (fun a b=>Z9 (nm a.1.1.tag) (nm b.1.1.tag)) 75 #[Bp] (Qle fun a:{y:Vl × Value // y∈xs}=>nm a.1.1.tag) g 0 c xs.attach.toArray w1
  (enters_of func75 aM rfl) hcmp q1 q2 (by simpa using h12) (fun n W hn=>(Any.bits_Len Tryz.lays125 n W aG aG).mono fun e w' ⟨h1,h2⟩=>⟨⟨_,h1⟩,h2⟩)
 rw[show xs.attach.toArray.size=xs.length by simp]at hS;refine hS.mono ?_;rintro e w' ⟨rfl,d',n,os,hP,hSo,rfl⟩;have hz:d'.size=xs.length:=by have:=hP.1;simpa using this
 have hperm:(d'.toList.map Subtype.val).Perm xs:=by
  have h2:=hP.2.2;rw[<-hz]at h2;rw[show d'.extract 0 d'.size=d' by simp,show xs.attach.toArray.extract 0 d'.size=xs.attach.toArray by rw[hz];simp;exact ar aL]at h2;have h3:=h2.map Subtype.val;rw[show xs.attach.toArray.toList=xs.attach from rfl,List.attach_map_subtype_val]at h3;exact h3
 have hsorted:(d'.toList.map Subtype.val).Pairwise fun a b=>nm a.1.tag<=nm b.1.tag:=by
  rw[List.pairwise_iff_getElem];intro i j hi hj hij;simp at hi hj;have h2:=hSo i j (ag _) hij aG;rw[getElem!_pos d' j aG,getElem!_pos d' i aG]at h2;simp only[List.getElem_map,Array.getElem_toList];rw[Xw (fun a:{y:Vl × Value // y∈xs}=>nm a.1.1.tag)]at h2;exact List.not_lt.1 eH
 have hus:=Qh3 (fun y:Vl × Value=>nm y.1.tag) hperm hsorted hd;have hH:=holdsK_sortWorldK_c enc 4 w1 g 0 xs.attach.toArray d' n os q1 q2 (by simpa using hz);have hgl:g<(sortWorldK enc 4 w1 g 0 n d' os).heap.size:=ac q2 (size_sortWorldK_c enc 4 w1 g 0 n d' os);have hrow:=Ql2 (k:=4) henc aJ hH hgl (by rw[hz];unfold maxLen;omega);rw[hz,show d'.toList.flatMap enc=(d'.toList.map Subtype.val).flatMap Dl by rw[List.flatMap_map],hus]at hrow;exact⟨rfl,hrow,Vx enc 4 w1 n g d' os⟩
theorem Qmu{P:Nat->Prop}{w:World}{xs:List (Vl × Value)}(h:∀x∈xs,Dt P w x.2 x.1.kids):∀u∈xs.flatMap Dl,u.oneCell'=true:=by
 intro u hu;obtain⟨x,hx,hu⟩:=List.mem_flatMap.1 hu;obtain⟨A,c,e⟩:=(h x hx).form;unfold Dl at hu;simp only[az,List.not_mem_nil,or_false]at hu;rcases hu with rfl|rfl|rfl|rfl
 ·rfl
 ·rfl
 ·rfl
 rw[e];rfl
theorem Qd3(A:Option Addr)(c:Nat)(P:Nat->Prop)(xs:List (Vl × Value))(w:World)(h0:0<xs.length)(hl:xs.length<=1000)(hr:Bh w A (xs.length*4) (xs.flatMap Dl))(h:∀x∈xs,Dt P w x.2 x.1.kids):
  Calls prog 73 #[.slice A xs.length c] w fun e w'=>(∃g c',e=.returned (.slice (some ⟨g,0,none⟩) xs.length c')/\w'.ownsRow w 42 4 (.slice (some ⟨g,0,none⟩) xs.length c') xs.length (xs.flatMap Dl))/\Below w w w':=by
 obtain⟨b,off,rfl,_,hc⟩:=hr.2.2 aG;obtain⟨i0,hi,hz0,hz1,hz2⟩:=info_parts Tryz.infoVl;refine(AnyE.slices_Clone Tryz.laysE41 i0 _ 4 56 hi hz0 hz1 hz2 rfl aJ sizeOf42 b off xs.length c (xs.flatMap Dl) w (Fo Pt xs) aU aG hc (Qmu h)).mono ?_;rintro e w' ⟨v',rfl,ho,hnz,hb⟩;refine⟨?_,hb⟩;rcases ho.2 with⟨rfl,h1⟩|⟨g,cap,cur,rfl,_⟩
 ·omega
 exact⟨g,cap,rfl,ho⟩
theorem Qc3(w:World)(x:PT)(hx:Sv w x)(v:Vl)(P:Nat->Prop)(sl:Value)(hsl:Dt P w sl v.kids)(nm:Nat->List UInt8)(hn:∀y∈v.kids,y.tag<=1000000000/\∃f,Bj x.ty.fields y.tag=some f/\f.name=nm y.tag)
  (hd:v.kids.Pairwise fun a b=>nm a.tag≠nm b.tag) (h12:v.kids.length<=12):
  Calls prog 40 #[x.ptr,Gy v sl] w fun e w'=>∃sl',e=.returned sl'/\Dt (fun c=>P c\/w.heap.size<=c) w' sl' (Gg (fun y=>nm y.tag) v.kids)/\Below w w w':=by
 obtain⟨A,c,xs,rfl,hk,hl,hr,hP,hs⟩:=hsl;obtain⟨w2,hw2⟩:∃w2,w2=(w.alloc (.cells #[x.blk] 76)).alloc (.cells #[.int .u8 (v.what.toNat:Int),v.text,(v.tag:Int),.slice A xs.length c] 42):=⟨_,rfl⟩
 have hb2:Below w w w2:=by rw[hw2];exact((Aw _ _).alloc (Ar _) _).alloc aL _
 have x0:w2.cell? (w,0)=x.blk:=by rw[hw2];simp[go_sem]
 have x1:w2.cell? (w,1,3)=some (.slice A xs.length c):=by rw[hw2];simp[go_sem]
 have l0:w.heap.size+1<w2.heap.size:=gC;have Hw2:=Aa hw2;have Hb2:=Aa hb2;have Hx2:=Aa (hx.below hb2);have Hr2:=Aa (hr.below hb2);have Hs:=Aa hs;have HK:=Aa hk;have Hn:=Aa hn;have Hd:=Aa hd;have e12:xs.length<=12:=by rw[hk]at h12;simpa [As]using h12
 clear hw2 hb2 hx hr hs hn hd hP hk h12;unfold PT.ptr Gy;go_enter func40,ntmps40;go_wp2_with fail;generalize hwg:World.alloc (World.alloc w _) _=wg;obtain rfl:w2=wg:=Hw2.o.trans hwg;clear hwg;by_cases h0:0<xs.length
 ·refine(Qd3 A c P xs w2 h0 hl Hr2.o fun y hy=>(Hs.o y hy).after Hb2.o).mono ?_;rintro e w3 ⟨⟨g,c3,rfl,ho⟩,hb3⟩;have Ho:=Aa ho;have Hb3:=Aa hb3;have y0:w3.cell? (w,0)=x.blk:=(hb3.cell (p:=⟨w.heap.size,0,none⟩) (by show w.heap.size<_;omega)).trans x0;clear ho hb3;go_wp2_with fail;refine(Qe7 w2 w3 x Hx2.o w.heap.size x0 aG Hb3.o nm xs ?_ ?_ e12 h0 g c3 Ho.o).mono ?_
  ·intro y hy;obtain⟨h1,h2⟩:=Hn.o y.1 (by rw[HK.o];exact aw.2 ⟨y,hy,rfl⟩);obtain⟨A5,c5,e5⟩:=(Hs.o y hy).form;exact⟨h1,h2,A5,_,c5,e5⟩
  ·intro a ha b hb e;have hd:=Hd.o;rw[HK.o,As,List.pairwise_map]at hd;obtain⟨i,hi,rfl⟩:=List.getElem_of_mem ha;obtain⟨j,hj,rfl⟩:=List.getElem_of_mem hb;rw[List.pairwise_iff_getElem]at hd;rcases Nat.lt_trichotomy i j with h1|h1|h1
   ·exact absurd e (hd i j hi hj h1)
   ·subst h1;rfl
   exact absurd e.symm (hd j i hj hi h1)
  rintro e w4 ⟨rfl,hrow,hg⟩;have hgl:=(Ho.o.lt g rfl).1;have hb4:Below w w w4:=(Hb2.o.trans (Hb3.o.mono Hb2.o.size)).grown hg (ad Hb2.o.size Hb3.o.size) (fun k hk=>by injection hk with hk;have:=Hb2.o.size;omega);have hperm:=Je (fun y:Vl × Value=>nm y.1.tag) xs;have hfin:Dt (fun c=>P c\/w.heap.size<=c) w4 (.slice (g,0) xs.length c3) (Gg (fun y=>nm y.tag) v.kids):=by
   refine .mk (g,0) c3 (Gg (fun y=>nm y.1.tag) xs) (by rw[hperm.length_eq]) ?_ (by rw[hperm.length_eq];exact hl) (by rw[hperm.length_eq];exact hrow) (fun g2 o _ e=>?_) fun y hy=>?_
   ·rw[HK.o];exact Zo (fun y:Vl × Value=>nm y.1.tag) (fun y:Vl=>nm y.tag) (·.1) (fun _=>rfl) xs
   ·injection e with e;injection e with e;subst e;exact .inr (ad Hb2.o.size hgl)
   exact((Hs.o y (hperm.mem_iff.1 hy)).after hb4).mono fun b hb _=>.inl hb
  have Hf:=Aa hfin;have Hb4:=Aa hb4;clear hfin hb4 hrow hg hperm Ho;go_wp2_with fail;go_ret;exact⟨_,rfl,Hf.o,Hb4.o⟩
 obtain rfl:xs=[]:=List.eq_nil_of_length_eq_zero aG;have HK2:=Aa (show Gg (fun y=>nm y.tag) v.kids=[]by rw[HK.o];rfl);refine(Qeu A c w2).mono ?_;rintro e w3 ⟨⟨A3,c3,rfl⟩,hb3⟩;have Hb3:=Aa hb3;clear hb3;go_wp2_with fail;refine(Qh9 A3 c3 w.heap.size w3).mono ?_;rintro e w4 ⟨rfl,rfl⟩;go_wp2_with fail;go_ret;refine⟨_,rfl,?_,Hb2.o.trans (Hb3.o.mono Hb2.o.size)⟩;rw[HK2.o];exact .mk A3 c3 [] rfl rfl aL ⟨rfl,ag _,fun h=>absurd h aL⟩ (fun _ _ h=>absurd h aL) aL
end
end Go.Proofs.YtkigmebejmmikaaGreatDoor
