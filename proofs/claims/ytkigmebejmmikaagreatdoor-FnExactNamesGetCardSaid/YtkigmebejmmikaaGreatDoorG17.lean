/- Texts joined. Conditions: as each theorem names them. -/
import Derived.Sort.Walk0
import Derived.Test.YtkigmebejmmikaaGreatDoorG16
set_option maxRecDepth 100000
set_option maxHeartbeats 32000000
set_option linter.unusedVariables false
set_option linter.unusedSimpArgs false
namespace Go.Proofs.YtkigmebejmmikaaGreatDoor
open Go.RowKit Go.Proofs.Tryz
section
attribute [local go_sem] Qjy Qiu Qil Qgp ByteArray.mk_append_mk
theorem Qfw(w0:World)(b N:Nat)(p:Value)(XS:List PT)(hsc:S7 w0 p XS)(hS:No (Af XS))(x:PT)(hx:So w0 x)(h2:x.ty.sort=82)(t:List UInt8)(w:World)(hw:Below w0 w0 w)(hb:w0.heap.size<=b)(h:Dp w b p t false)(hl:t.length<=900)(hN:t.length<=N)(hN2:N<=2000)
  (htg:∀f∈x.ty.fields,f.tag<=200) (hfk:∀f∈x.ty.fields,C0 f.kind/\B9 (Af XS) f.kind/\f.given.length<=1000) (H:∀f∈x.ty.fields,IvC w0 b p (Af XS) N f.kind)
  (HG:∀f∈x.ty.fields,∀s v r,Ak (Af XS) 1000 N f.kind s=some (v,r)->s=Au v++r) (q:Option (Vl × List UInt8)) (hq:q=Ha (Af XS) (Ak (Af XS) 1000 N) x.ty t):
  Calls prog 100 #[b,x.blk] w (Kh w b p t (N+1) q):=by
 have HQ:=Aa (hq.trans (by unfold Ha;rw[if_neg cC,if_neg cC]));have Hsc:=Aa hsc;have HSo:=Aa hS;have Hfk:=Aa hfk;have HG:=Aa HG;obtain⟨pb,_,_,_,rfl,_⟩:=hsc;have HS:=Aa h;have HW:=Aa hw;have hb0:=h.1;have hx0:=hx.1;have hww:=hw.size;have x0:=(hw.cell (p:=⟨x.blk,0,none⟩) hx0).trans hx.2.2.1;have hxw:x.blk<w.heap.size:=aE;have hxn:¬(x.blk=w.heap.size):=aE;have hxn2:¬(x.blk=w.heap.size+1):=aE;rw[h2]at x0;have x0':w.cell? (x.blk,0)=some (.int .u8 82):=x0;clear x0;generalize hSS:Af XS=S at *;have HSS:=Aa hSS;have hm:=Cc 123 t false;have Hwt:=Aa (fun W (h:Dp W b pb t false)=>Bf b _ t [123] false W h aE);obtain⟨t1,ht1⟩:∃t1,t1=(Aj [123] t false).getD t:=⟨_,rfl⟩
 obtain⟨b1,hb1⟩:∃b1,b1=(Aj [123] t false).isNone:=⟨_,rfl⟩
 have Ht1:=Aa ht1;have Hb1:=Aa hb1;rw[<-ht1]at hm;rw[<-ht1,<-hb1]at Hwt;have Htk:=Aa (fun W (h:Dp W b pb t1 b1)=>Dm b _ t1 [125] b1 W h aE);have Hfd:=Aa (fun W tt (h1:Below w0 w0 W) (h2:Dp W b pb tt false) (h3:tt.length<=t1.length)=>Ze w0 b N _ S x hx tt W h1 hb false h2 aE (fun _=>by omega) hN2 htg H (Ct (Ak S 1000 N) x.ty.fields tt) rfl);clear ht1 hb1 h hw hq h2 H hSS hfk hS;go_enter func100,ntmps100;go_wp2_with fail;have F1:=Aa ((Jp.init HS.o (T:=42)).post ((Ay _ _).alloc (As _) (.cells #[.int .u8 82,a8,.int .i64 0,.slice none 0 0] 42)))
 have K1:=Aa (show Qk (w.heap.size+1+1) (w.heap.size+1) ((w.alloc (.cells #[.int .u8 0,a8,.int .i64 0,.slice none 0 0] 42)).alloc (.cells #[.int .u8 82,a8,.int .i64 0,.slice none 0 0] 42)) (.int .u8 82) a8 (.int .i64 0) (.slice none 0 0) (.slice none 0 0) []from by
  have hv:=Vb.new (w:=w.alloc (.cells #[.int .u8 0,a8,.int .i64 0,.slice none 0 0] 42)) (h0:=.int .u8 82) (h1:=a8) (h2:=.int .i64 0) (h3:=.slice none 0 0) (T:=42);simp at hv;exact⟨by simp,by simp,by omega,hv.bk,hv.c0,hv.c1,hv.c2,hv.c3,World.ownsRow_nil _ _ _ _,by simp⟩)
 refine(Hwt.o _ F1.o.1.1).mono ?_;rintro e w2 ⟨rfl,hs2⟩;have F2:=Aa (F1.o.step hb0 hs2);have K2:=Aa (K1.o.step hs2.2 aE aE);clear hs2 F1 K1;go_wp2_with fail;refine(Htk.o _ F2.o.1.1).mono ?_;rcases hy:Aj [125] t1 b1 with _|r
 ·have Hy:=Aa hy;clear hy;rintro e W3 ⟨rfl,hs3⟩;simp only[Option.getD_none]at hs3;have F3:=Aa (F2.o.step hb0 hs3);have K3:=Aa (K2.o.step hs3.2 aE aE);clear hs3 F2 K2;go_wp2_with fail
  go_loopw [8] (fun i wr=>∃(ps:List (Fd × Vl)) (xs:List (Vl × Value)) (A:Option Addr) (n c last:Nat) (tt:List UInt8),i=(last:Int)/\tt.length<=t1.length/\wr.cell? (b,1)=tt/\Hid (Ar xs=ps.map Cw)/\Hid (Jp w b pb w.heap.size tt b1 wr) /\
    Hid (Qk (w.heap.size+1+1) (w.heap.size+1) wr (.int .u8 82) a8 (.int .i64 0) (.slice A n c) (.slice A n c) xs)/\Hid (RI S (Ak S 1000 N) x.ty.fields t1 b1 ps last tt))
   (fun _ wr=>match wr.cell? (b,1)with|some (.string s)=>s.size|_=>0)
  case atStart=>exact⟨[],[],none,0,0,0,t1,rfl,As _,F3.o.1.1.2.2.2.1,rfl,F3.o,K3.o,RI.init⟩
  case round=>
   obtain⟨ps,xs,A,n,c,last,tt,rfl,htl,c1,Hvs,F,K,hI⟩:=hrel;have s2:=F.o.1.1.2.2.2.2;have hlo:=hI.o.lo;have hhi:=hI.o.hi;have hxl:xs.length<=ps.length:=by have:=congrArg List.length Hvs.o;simp[Ar]at this;omega
   cases b1 with
   |true=>
    have E:=hI.o.bad (N:=N);rw[<-Hvs.o]at E;go_wp2_with fail;have hn7:n=xs.length:=Ff K.o.row;subst hn7;have Hw9:=Aa (fun W (h:Dp W b pb tt true)=>Bf b _ tt [125] true W h aE);refine(Hw9.o _ F.o.1.1).mono ?_;rintro e W7 ⟨rfl,hs7⟩;have F7:=Aa (F.o.step hb0 hs7);have K7:=Aa (K.o.step hs7.2 aE aE);have hfin:=Aa (HQ.o.trans (E.fin Ht1.o Hb1.o Hy.o));have hle9:=Cc 125 tt true;obtain⟨_,_,_,hE9,hB9,hL9⟩:=E;generalize (Aj [125] tt true).getD tt=t4 at *;generalize (Aj [125] tt true).isNone=b4 at *;have HB9:=Aa hB9;have hyl:(xs).length<=1000:=cU;have d0:=K7.o.c0;have d1:=K7.o.c1;have d2:=K7.o.c2;have d3:=K7.o.c3;clear hs7 hB9;go_wp2_with ((with_reducible refine Ac (op:=⟨none,.store 42 _ _,_,_,_,none⟩) rfl 42 _ _ rfl w 0 [.int .u8 82,a8,.int .i64 0,.slice A xs.length c] ?_ ?_ ?_ ?_ ?_ ?_);rfl;rfl;(exact F7.o.2.1);kernel_rfl;(simp[Value.oneCell']);intro w9 HS9)
    have Z:=Jp.fin (v:=.mk 82 [] 0 (Ar xs)) (sl:=.slice A xs.length c) F7.o hb0 HS9.o ((K7.o.done hyl).mono fun c hc _=>by omega);exact aC (v:=.agg (Em (.mk 82 [] 0 (Ar xs)) (.slice A xs.length c)).toArray) (Ag results100 _ _ w.heap.size _ _ rfl Z.2.2 underlying42 rfl aJ) rfl ⟨.mk 82 [] 0 (Ar xs),_,t4,rfl,Z.1,by rw[hfin.o];cases b4<;>exact Z.2.1,by rw[hfin.o];cases b4<;>simp,.mk aH aE aI HB9.o,by omega,by rw[Rw];simp[Ez,B1];omega⟩
   |false=>
    go_wp2_with fail;refine(Hfd.o _ tt (F.o.1.env HW.o hb) F.o.1.1 htl).mono ?_;rintro e w4 ⟨v,sl,fp,t',rfl,hk4,hs4,hB4,hl4,hn4,hcase⟩;obtain⟨A7,c7,rfl⟩:=hk4.form;have F4:=Aa (F.o.step hb0 hs4);have K4:=Aa (K.o.step hs4.2 aE aE);have Hk4:=Aa hk4;have hz4:wr.heap.size<=w4.heap.size:=hs4.2.size;have hKb:=K.o.bs;clear hs4 hk4 c1 s2;unfold Mg;rcases hcase with⟨rfl,hq1⟩|⟨g,y,hfp,rfl,hfg,hBy,hy⟩
    ·have E:=hI.o.stop (N:=N) (t':=t') (by rw[hq1];simp) hl4;rw[<-Hvs.o]at E;clear hq1 hB4;go_wp2_with fail;have F5:=Aa (F4.o.post ((Ay w4.heap.size w4).alloc (As _) (.cells #[.int .u8 (v.what.toNat:Int),.string ⟨v.text.toArray⟩,(v.tag:Int),.slice A7 v.kids.length c7] 42)));have K5:=Aa (K4.o.after ((Ay w4.heap.size w4).alloc (As _) (.cells #[.int .u8 (v.what.toNat:Int),.string ⟨v.text.toArray⟩,(v.tag:Int),.slice A7 v.kids.length c7] 42)));obtain⟨W5,hW5⟩:∃W5,W5=w4.alloc (.cells #[.int .u8 (v.what.toNat:Int),.string ⟨v.text.toArray⟩,(v.tag:Int),.slice A7 v.kids.length c7] 42):=⟨_,rfl⟩
     rw[<-hW5]at F5 K5 ⊢;clear hW5;have sb:=F5.o.1.1.2.1.live 2;have s0:=F5.o.1.1.1;have s2:=F5.o.1.1.2.2.2.2;go_quiet (fail)
     go_wp2_with fail;have F6:=Aa (F5.o.post (below_drewN (Ay _ _) nq));have F6:=Aa (F6.o.step hb0 ⟨F6.o.1.1.setBad true,Ap _ b 2 (.bool true)⟩);have K6:=Aa ((K5.o.after (below_drewN (Ay _ _) nq)).step (Ap _ b 2 (.bool true)) aE aE);clear sb s0 s2;have hn7:n=xs.length:=Ff K.o.row;subst hn7;have Hw9:=Aa (fun W (h:Dp W b pb t' true)=>Bf b _ t' [125] true W h aE);refine(Hw9.o _ F6.o.1.1).mono ?_;rintro e W7 ⟨rfl,hs7⟩;have F7:=Aa (F6.o.step hb0 hs7);have K7:=Aa (K6.o.step hs7.2 aE aE);have hfin:=Aa (HQ.o.trans (E.fin Ht1.o Hb1.o Hy.o));have hle9:=Cc 125 t' true;obtain⟨_,_,_,hE9,hB9,hL9⟩:=E;generalize (Aj [125] t' true).getD t'=t4 at *;generalize (Aj [125] t' true).isNone=b4 at *;have HB9:=Aa hB9;have hyl:(xs).length<=1000:=cU;have d0:=K7.o.c0;have d1:=K7.o.c1;have d2:=K7.o.c2;have d3:=K7.o.c3;clear hs7 hB9;go_wp2_with ((with_reducible refine Ac (op:=⟨none,.store 42 _ _,_,_,_,none⟩) rfl 42 _ _ rfl w 0 [.int .u8 82,a8,.int .i64 0,.slice A xs.length c] ?_ ?_ ?_ ?_ ?_ ?_);rfl;rfl;(exact F7.o.2.1);kernel_rfl;(simp[Value.oneCell']);intro w9 HS9)
     have Z:=Jp.fin (v:=.mk 82 [] 0 (Ar xs)) (sl:=.slice A xs.length c) F7.o hb0 HS9.o ((K7.o.done hyl).mono fun c hc _=>by omega);exact aC (v:=.agg (Em (.mk 82 [] 0 (Ar xs)) (.slice A xs.length c)).toArray) (Ag results100 _ _ w.heap.size _ _ rfl Z.2.2 underlying42 rfl aJ) rfl ⟨.mk 82 [] 0 (Ar xs),_,t4,rfl,Z.1,by rw[hfin.o];cases b4<;>exact Z.2.1,by rw[hfin.o];cases b4<;>simp,.mk aH aE aI HB9.o,by omega,by rw[Rw];simp[Ez,B1];omega⟩
    obtain⟨fb,fo,rfl,hfb,hfr⟩:=hfp;have HP4:=@Aa (H7 w0.heap.size w4 (.pointer (some ⟨fb,fo,none⟩)) (some g)) ⟨fb,fo,rfl,hfb,hfr⟩;have hgm:=(Bz hfg).2;have hg2:=htg g hgm;obtain⟨hkd,hrf,hgl⟩:=Hfk.o g hgm;have HGg:=Aa (HG.o g hgm);have HBy:=Aa hBy;have HBf:=Aa hB4;have Hy2:=Aa hy;have hn4':(Au (Cw (g,y))).length+t'.length<=tt.length+8*N:=hn4;simp only[Cw,Vl.what,Vl.text,Vl.tag,Vl.kids,List.length_singleton]at Hk4 ⊢;clear hfr hBy hB4 hy hn4;go_wp2_with fail;obtain⟨W5,hW5⟩:∃W5,W5=w4.alloc (.cells #[.int .u8 61,a8,(g.tag:Int),.slice A7 1 c7] 42):=⟨_,rfl⟩
    have hb5:Below w4 w4 W5:=by rw[hW5];exact(Ay _ _).alloc (As _) _
    have X5:=@Aa (W5.rangeAt w4 0 [.int .u8 61,a8,(g.tag:Int),.slice A7 1 c7]) (by rw[hW5];exact Ch w4 [.int .u8 61,a8,(g.tag:Int),.slice A7 1 c7] _);have hz5:w4.heap.size<W5.heap.size:=by rw[hW5];simp
    have F5:=Aa (F4.o.post hb5);have K5:=Aa (K4.o.after hb5);have Hk5:=Aa (Hk4.o.after hb5);have HW5:=Aa (F5.o.1.env HW.o hb);have HP5:=Aa (HP4.o.via (F4.o.1.env HW.o hb) HW5.o);have G5:=@Aa (W5.rangeAt fb fo (Qx g)) (by obtain⟨a1,a2,a3,_,a5⟩:=HP5.o;injection a3 with a3;injection a3 with a3;injection a3 with a3 a4;subst a3 a4;exact a5);have D0:W5.cell? ⟨fb,fo,none⟩=(g.tag:Int):=by simpa using Ab G5.o 0 rfl
    rw[<-hW5];have hfb5:fb<W5.heap.size:=by have:=HW5.o.size;omega
    obtain⟨BX,hBX⟩:∃BX,BX=w4.heap.size:=⟨_,rfl⟩
    rw[<-hBX]at X5 hz5 hb5 hz4 ⊢;clear hW5 F4 K4 Hk4 HP4 hb5 hBX;have sb:=F5.o.1.1.2.1.live 2;have s0:=F5.o.1.1.1;have s2:=F5.o.1.1.2.2.2.2;by_cases hlt:g.tag<=last
    ·have E:=hI.o.stop (N:=N) (t':=t') (fun z hz=>.inl (by rw[Hy2.o z hz];exact hlt)) hl4;rw[<-Hvs.o]at E;have tl:decide ((g.tag:Int)<=(last:Int))=true:=aA aE;go_quiet (fail)
     go_wp2_with fail;have F6:=Aa (F5.o.post (below_drewN (Ay _ _) nq));have F6:=Aa (F6.o.step hb0 ⟨F6.o.1.1.setBad true,Ap _ b 2 (.bool true)⟩);have K6:=Aa ((K5.o.after (below_drewN (Ay _ _) nq)).step (Ap _ b 2 (.bool true)) aE aE);clear sb s0 s2 D0;have hn7:n=xs.length:=Ff K.o.row;subst hn7;have Hw9:=Aa (fun W (h:Dp W b pb t' true)=>Bf b _ t' [125] true W h aE);refine(Hw9.o _ F6.o.1.1).mono ?_;rintro e W7 ⟨rfl,hs7⟩;have F7:=Aa (F6.o.step hb0 hs7);have K7:=Aa (K6.o.step hs7.2 aE aE);have hfin:=Aa (HQ.o.trans (E.fin Ht1.o Hb1.o Hy.o));have hle9:=Cc 125 t' true;obtain⟨_,_,_,hE9,hB9,hL9⟩:=E;generalize (Aj [125] t' true).getD t'=t4 at *;generalize (Aj [125] t' true).isNone=b4 at *;have HB9:=Aa hB9;have hyl:(xs).length<=1000:=cU;have d0:=K7.o.c0;have d1:=K7.o.c1;have d2:=K7.o.c2;have d3:=K7.o.c3;clear hs7 hB9;go_wp2_with ((with_reducible refine Ac (op:=⟨none,.store 42 _ _,_,_,_,none⟩) rfl 42 _ _ rfl w 0 [.int .u8 82,a8,.int .i64 0,.slice A xs.length c] ?_ ?_ ?_ ?_ ?_ ?_);rfl;rfl;(exact F7.o.2.1);kernel_rfl;(simp[Value.oneCell']);intro w9 HS9)
     have Z:=Jp.fin (v:=.mk 82 [] 0 (Ar xs)) (sl:=.slice A xs.length c) F7.o hb0 HS9.o ((K7.o.done hyl).mono fun c hc _=>by omega);exact aC (v:=.agg (Em (.mk 82 [] 0 (Ar xs)) (.slice A xs.length c)).toArray) (Ag results100 _ _ w.heap.size _ _ rfl Z.2.2 underlying42 rfl aJ) rfl ⟨.mk 82 [] 0 (Ar xs),_,t4,rfl,Z.1,by rw[hfin.o];cases b4<;>exact Z.2.1,by rw[hfin.o];cases b4<;>simp,.mk aH aE aI HB9.o,by omega,by rw[Rw];simp[Ez,B1];omega⟩
    have tl:decide ((g.tag:Int)<=(last:Int))=false:=az aE;obtain⟨ka,kc,kxs,ek,hkk,_,hkr,_,hkk2⟩:=Hk5.o;obtain⟨⟨y',ys⟩,rfl⟩:∃a,kxs=[a]:=by
     cases kxs with
     |nil=>simp[Ar]at hkk
     |cons a l=>cases l with
      |nil=>exact⟨a,rfl⟩
      |cons b l=>simp[Ar]at hkk
    obtain rfl:y=y':=by simpa [Ar]using hkk
    injection ek with e1 e2 e3;subst e1 e3;have hky:=hkk2 (y,ys) aI;obtain⟨A8,c8,e8⟩:=hky.form;simp only at e8 hky;subst e8;obtain⟨kb,ko,rfl,hkb,q0,q1,q2,q3⟩:=D1.at_ hkr (show 0<1 by decide);simp only[List.getElem_cons_zero,Nat.zero_mul,Nat.add_zero]at q0 q1 q2 q3;have Hky:=Aa hky;have Q0:=Aa q0;have Q1:=Aa q1;have Q2:=Aa q2;have Q3:=Aa q3;have DD:=Aa D0;have SP:=Aa F5.o.1.1.2.2.1;have HPr:=Aa (fun W (h:Below W5 W5 W)=>Nb _ HBy.o (.slice A8 y.kids.length c8) W (Hky.o.after h));have HOf:=Aa (fun W (h:Below W5 W5 W)=>Qck pb XS (by rw[HSS.o];exact HSo.o) g fb fo W (Hsc.o.below (HW5.o.trans (h.mono HW5.o.size))) (Av G5.o hfb5 h) hkd (by rw[HSS.o];exact hrf) hgl);simp only[HSS.o]at HOf;have HV:=Aa (rfl:Au y=Au y);generalize hpy:Au y=py at *;generalize hpo:Kn S g=po at *;have Hpy:=Aa hpy;have Hpo:=Aa hpo;unfold Mg at HPr;clear q0 q1 q2 q3 hkk2 hky hkr hkk e2 D0 s2 hpy hpo HV;refine Sy [36,37,38,39,40,41,42,43,44,45,46,47,48,49,50,51,52,53,54,55,56,57,58,59]
     (fun ix v W=>match ix with|0=>v=.pointer (some ⟨fb,fo,none⟩)|1=>v=.bool false|2=>v=.bool false|3=>v=.pointer (some ⟨fb,fo,none⟩)|4=>v=.pointer (some ⟨fb,fo,none⟩)|5=>v=.pointer (some ⟨fb,fo,none⟩)|6=>v=(g.tag:Int)|7=>v=(last:Int)|8=>v=.bool false|9=>v=.bool false|10=>v=.bool false|11=>v=.pointer (some ⟨BX,3,none⟩)|12=>v=.slice (some ⟨kb,ko,none⟩) 1 c7|13=>v=.pointer (some ⟨kb,ko,none⟩)|14=>v=.agg #[.int .u8 (y.what.toNat:Int),y.text,(y.tag:Int),.slice A8 y.kids.length c8]|15=>v=py|16=>v=b|17=>v=b|18=>v=b|19=>v=pb|20=>v=.pointer (some ⟨fb,fo,none⟩)|21=>v=po|22=>v=.bool (py == po)|23=>v=.bool (py == po)|_=>True)
     (fun L U W=>Below W5 W5 W) ((Ay _ _).drew) ?_ ?_
    ·repeat (first|exact Ba.nil|(refine Ba.cons ?_ ?_;rotate_left))
     all_goals
      rintro L U W hL hpre HR Hdep K hK;have hB:=HR.o;have m0:W.cell? ⟨fb,fo,none⟩=(g.tag:Int):=(hB.cell (p:=⟨fb,fo,none⟩) hfb5).trans DD.o;have m3:W.cell? ⟨BX,3,none⟩=some (.slice (some ⟨kb,ko,none⟩) 1 c7):=(hB.cell (p:=⟨BX,3,none⟩) hz5).trans (X5.o 3 _ rfl);have y0:=(hB.cell (p:=⟨kb,ko,none⟩) hkb).trans Q0.o;have y1:=(hB.cell (p:=⟨kb,ko+1,none⟩) hkb).trans Q1.o;have y2:=(hB.cell (p:=⟨kb,ko+2,none⟩) hkb).trans Q2.o;have y3:=(hB.cell (p:=⟨kb,ko+3,none⟩) hkb).trans Q3.o;have p0:W.cell? (b,0)=pb:=(hB.cell (p:=⟨b,0,none⟩) s0).trans SP.o;first|(simp[Region.binds]at hpre;done)|simp[Region.binds]at hpre|clear hpre
     iterate 15
      ·exact fG
     ·go_simp;refine(HPr.o W hB).mono ?_;rintro e w5 ⟨rfl,hb5⟩;exact iZ
     iterate 5
      ·exact fG
     ·go_simp;refine(HOf.o W hB).mono ?_;rintro e w5 ⟨rfl,hb5⟩;exact iZ
     iterate 2
      ·exact fG
    rintro L U W hL hφ hR;have e23:U 23=.bool (py == po):=hφ 23 aH;simp only[e23];clear hφ;have hB6:=Aa hR;have F6:=Aa (F5.o.post hR);have K6:=Aa (K5.o.after hR);have X6:=Aa (Av X5.o hz5 hR);have Hk6:=Aa (Hk5.o.after hR);have D6:W.cell? ⟨fb,fo,none⟩=(g.tag:Int):=(hR.cell (p:=⟨fb,fo,none⟩) hfb5).trans DD.o;have hzW:=hR.size;clear hL hR;by_cases heq:py=po
    ·have te:(py == po)=true:=by simp[heq]
     have E:=hI.o.stop (N:=N) (t':=t') (fun z hz=>.inr (by rw[Hy2.o z hz];exact Hpy.o.trans (heq.trans Hpo.o.symm))) hl4;rw[<-Hvs.o]at E;have sb:=F6.o.1.1.2.1.live 2;have s0:=F6.o.1.1.1;have s2:=F6.o.1.1.2.2.2.2;clear heq;rw[te];go_wp2_with fail;have F7:=Aa (F6.o.step hb0 ⟨F6.o.1.1.setBad true,Ap _ b 2 (.bool true)⟩);have K7:=Aa (K6.o.step (Ap _ b 2 (.bool true)) aE aE);clear sb s0 s2;have hn7:n=xs.length:=Ff K.o.row;subst hn7;have Hw9:=Aa (fun W (h:Dp W b pb t' true)=>Bf b _ t' [125] true W h aE);refine(Hw9.o _ F7.o.1.1).mono ?_;rintro e W7 ⟨rfl,hs7⟩;have F7:=Aa (F7.o.step hb0 hs7);have K7:=Aa (K7.o.step hs7.2 aE aE);have hfin:=Aa (HQ.o.trans (E.fin Ht1.o Hb1.o Hy.o));have hle9:=Cc 125 t' true;obtain⟨_,_,_,hE9,hB9,hL9⟩:=E;generalize (Aj [125] t' true).getD t'=t4 at *;generalize (Aj [125] t' true).isNone=b4 at *;have HB9:=Aa hB9;have hyl:(xs).length<=1000:=cU;have d0:=K7.o.c0;have d1:=K7.o.c1;have d2:=K7.o.c2;have d3:=K7.o.c3;clear hs7 hB9;go_wp2_with ((with_reducible refine Ac (op:=⟨none,.store 42 _ _,_,_,_,none⟩) rfl 42 _ _ rfl w 0 [.int .u8 82,a8,.int .i64 0,.slice A xs.length c] ?_ ?_ ?_ ?_ ?_ ?_);rfl;rfl;(exact F7.o.2.1);kernel_rfl;(simp[Value.oneCell']);intro w9 HS9)
     have Z:=Jp.fin (v:=.mk 82 [] 0 (Ar xs)) (sl:=.slice A xs.length c) F7.o hb0 HS9.o ((K7.o.done hyl).mono fun c hc _=>by omega);exact aC (v:=.agg (Em (.mk 82 [] 0 (Ar xs)) (.slice A xs.length c)).toArray) (Ag results100 _ _ w.heap.size _ _ rfl Z.2.2 underlying42 rfl aJ) rfl ⟨.mk 82 [] 0 (Ar xs),_,t4,rfl,Z.1,by rw[hfin.o];cases b4<;>exact Z.2.1,by rw[hfin.o];cases b4<;>simp,.mk aH aE aI HB9.o,by omega,by rw[Rw];simp[Ez,B1];omega⟩
    have te:(py == po)=false:=by simpa using heq
    have hne:Au y≠Kn S g:=by rw[Hpy.o,Hpo.o];exact heq
    have Hne:=Aa hne;clear heq hne;rw[te];have Hk6r:=Aa (Hk6.o.mono (Q:=fun d=>w.heap.size+1+1<=d/\(Value.slice A n c).ownBlock≠some d) (fun d hd _=>⟨by omega,fun e=>by have:=(K.o.row.lt d e).2;omega⟩));have kc3:=K6.o.c3;have x60:=X6.o 0 _ rfl;have x61:=X6.o 1 _ rfl;have x62:=X6.o 2 _ rfl;have x63:=X6.o 3 _ rfl;simp only[aj]at x60 x61 x62 x63;have hn7:=Ff K6.o.row;subst hn7;go_wp2_with (at_builtin;refine Yk W rfl _ _ 40 rfl (w.heap.size+1+1) 42 (.agg #[.int .u8 0,a8,.int .i64 0,.slice none 0 0]) 4 56 underlying40 Pq rfl aH (Dx (Cw (g,y),.slice (some ⟨kb,ko,none⟩) 1 c7)) rfl (Yv _ rfl) (.slice A xs.length c) xs.length (xs.flatMap Dx) rfl rfl K6.o.row aW aE K6.o.bs ?_;intro v7 w9 hown9 hg9 hwh9;have Hown9:=Aa hown9;have Hg9:=Aa hg9;have Hwh9:=Aa hwh9;obtain⟨A9,n9,c9,rfl⟩:=Jd hown9;clear hown9 hg9 hwh9;have K9:=Aa (K6.o.app (x:=(Cw (g,y),.slice (some ⟨kb,ko,none⟩) 1 c7)) Hk6r.o Hown9.o Hg9.o Hwh9.o);have F9:=Aa (F6.o.app hb0 Hg9.o (fun k e=>by have:=(K6.o.row.lt k e).1;omega));have z3:=K9.o.c3;have zf:=K9.o.bk.live 3;have zl:=K9.o.lt)
    have K10:=Aa K9.o.store;have F10:=Aa (F9.o.app hb0 (Ap w9 (w.heap.size+1) 3 (.slice A9 n9 c9)) (fun k e=>by injection e with e;omega));generalize w9.setCell ⟨w.heap.size+1,3,none⟩ (.slice A9 n9 c9)=w10 at *;clear z3 zf zl kc3 x60 x61 x62 x63 K9 F9;have Htk5:=Aa (fun W (h:Dp W b pb t' (Ct (Ak S 1000 N) x.ty.fields tt).isNone)=>Dm b _ t' [44] (Ct (Ak S 1000 N) x.ty.fields tt).isNone W h aE);refine(Htk5.o _ F10.o.1.1).mono ?_;rcases hc:Aj [44] t' (Ct (Ak S 1000 N) x.ty.fields tt).isNone with _|r
    ·have E:=hI.o.brk (N:=N) Hy2.o aE Hne.o hc HBf.o hn4';clear hc;rintro e W6 ⟨rfl,hs6⟩;simp only[Option.getD_none]at hs6;have F11:=Aa (F10.o.step hb0 hs6);have K11:=Aa (K10.o.step hs6.2 aE aE);rw[<-Hvs.o]at E;have E:RE S (Ak S 1000 N) x.ty.fields t1 false (Ar (xs++[(Cw (g,y),.slice (some ⟨kb,ko,none⟩) 1 c7)])) t' (Ct (Ak S 1000 N) x.ty.fields tt).isNone N:=by simpa [Ar]using E
     clear hs6;go_wp2_with fail;generalize xs++[(Cw (g,y),Value.slice (some ⟨kb,ko,none⟩) 1 c7)]=ys at *;have hn7:n9=ys.length:=Ff K11.o.row;subst hn7;have Hw9:=Aa (fun W (h:Dp W b pb t' (Ct (Ak S 1000 N) x.ty.fields tt).isNone)=>Bf b _ t' [125] (Ct (Ak S 1000 N) x.ty.fields tt).isNone W h aE);refine(Hw9.o _ F11.o.1.1).mono ?_;rintro e W7 ⟨rfl,hs7⟩;have F7:=Aa (F11.o.step hb0 hs7);have K7:=Aa (K11.o.step hs7.2 aE aE);have hfin:=Aa (HQ.o.trans (E.fin Ht1.o Hb1.o Hy.o));have hle9:=Cc 125 t' (Ct (Ak S 1000 N) x.ty.fields tt).isNone;obtain⟨_,_,_,hE9,hB9,hL9⟩:=E;generalize (Aj [125] t' (Ct (Ak S 1000 N) x.ty.fields tt).isNone).getD t'=t4 at *;generalize (Aj [125] t' (Ct (Ak S 1000 N) x.ty.fields tt).isNone).isNone=b4 at *;have HB9:=Aa hB9;have hyl:(ys).length<=1000:=cU;have d0:=K7.o.c0;have d1:=K7.o.c1;have d2:=K7.o.c2;have d3:=K7.o.c3;clear hs7 hB9;go_wp2_with ((with_reducible refine Ac (op:=⟨none,.store 42 _ _,_,_,_,none⟩) rfl 42 _ _ rfl w 0 [.int .u8 82,a8,.int .i64 0,.slice A9 ys.length c9] ?_ ?_ ?_ ?_ ?_ ?_);rfl;rfl;(exact F7.o.2.1);kernel_rfl;(simp[Value.oneCell']);intro w9 HS9)
     have Z:=Jp.fin (v:=.mk 82 [] 0 (Ar ys)) (sl:=.slice A9 ys.length c9) F7.o hb0 HS9.o ((K7.o.done hyl).mono fun c hc _=>by omega);exact aC (v:=.agg (Em (.mk 82 [] 0 (Ar ys)) (.slice A9 ys.length c9)).toArray) (Ag results100 _ _ w.heap.size _ _ rfl Z.2.2 underlying42 rfl aJ) rfl ⟨.mk 82 [] 0 (Ar ys),_,t4,rfl,Z.1,by rw[hfin.o];cases b4<;>exact Z.2.1,by rw[hfin.o];cases b4<;>simp,.mk aH aE aI HB9.o,by omega,by rw[Rw];simp[Ez,B1];omega⟩
    have hcl:=Eo hc;rintro e W6 ⟨rfl,hs6⟩;simp only[Option.getD_some]at hs6;cases hk:Ct (Ak S 1000 N) x.ty.fields tt with
    |none=>rw[hk,Be]at hc;exact absurd hc aI
    |some z=>
     have hz:=Hy2.o z hk;subst hz
     have I6:=Aa (show RI S (Ak S 1000 N) x.ty.fields t1 false (ps++[(g,y)]) g.tag r from by
      have h44:Ae 44 t'=some r:=by rw[hk,Be]at hc;simpa using hc
      have hl9:=(P3 (P:=fun _ _=>True) (fun f hf s v r h=>⟨Ad,HG.o f hf s v r h⟩) hk).2.2.2;exact hI.o.step hk aE Hne.o (by rw[hl9];simp) h44 HBf.o hg2)
     rw[hk]at hs6 F10;have F11:=Aa (F10.o.step hb0 hs6);have K11:=Aa (K10.o.step hs6.2 aE aE);have V11:=@Aa (Ar (xs++[(Cw (g,y),.slice (some ⟨kb,ko,none⟩) 1 c7)])=(ps++[(g,y)]).map Cw) (by have:=Hvs.o;simp[Ar]at this ⊢;exact this);have c6:=F11.o.1.1.2.2.2.1;have c1:=F.o.1.1.2.2.2.1;clear hs6 hk hc;go_wp2_with fail;go_roundw
     case rel=>exact⟨ps++[(g,y)],xs++[(Cw (g,y),Value.slice (some ⟨kb,ko,none⟩) 1 c7)],A9,n9,c9,g.tag,r,rfl,by omega,c6,V11.o,F11.o,K11.o,I6.o⟩
     case measure=>simp[c1,c6,ByteArray.size];omega
 have Hy:=Aa hy;have hlt:=Eo hy;clear hy;rintro e W3 ⟨rfl,hs3⟩;simp only[Option.getD_some]at hs3;have F3:=Aa (F2.o.step hb0 hs3);have K3:=Aa (K2.o.step hs3.2 aE aE);clear hs3 F2 K2;have d0:=K3.o.c0;have d1:=K3.o.c1;have d2:=K3.o.c2;have d3:=K3.o.c3;go_wp2_with ((with_reducible refine Ac (op:=⟨none,.store 42 _ _,_,_,_,none⟩) rfl 42 _ _ rfl w 0 [.int .u8 82,a8,.int .i64 0,.slice none 0 0] ?_ ?_ ?_ ?_ ?_ ?_);rfl;rfl;(exact F3.o.2.1);kernel_rfl;(simp[Value.oneCell']);intro w9 HS9)
 have hq2:q=some (.mk 82 [] 0 [],r):=by
  have h1:=Ht1.o;have h2:=Hb1.o;have h3:=Hy.o;rw[HQ.o];rw[Be]at h1 h2 h3;simp only[ak,if_false]at h1 h2;cases h9:Ae 123 t with
  |none=>rw[h9]at h2;simp at h2;subst h2;simp at h3
  |some z=>
   rw[h9]at h1 h2;simp at h1 h2;subst h1 h2;simp only[ak,if_false]at h3;simp only[h3]
 have hb1':b1=false:=by cases b1;rfl;have:=Hy.o;rw[Be]at this;simp at this
 subst hb1';have Z:=Jp.fin (v:=.mk 82 [] 0 []) (sl:=.slice none 0 0) F3.o hb0 HS9.o (D1.nil _ _);exact aC (v:=.agg (Em (.mk 82 [] 0 []) (.slice none 0 0)).toArray) (Ag results100 _ _ w.heap.size _ _ rfl Z.2.2 underlying42 rfl aJ) rfl ⟨.mk 82 [] 0 [],_,r,rfl,Z.1,by rw[hq2];exact Z.2.1,by rw[hq2];simp,Ey aH aH,by omega,by simp[Au,Cs,Ez,An];omega⟩
inductive Dw:Vl->Prop
 |fd {tx:List UInt8} {tg:Nat} {x:Vl} (h:Dw x):Dw (.mk 61 tx tg [x])
 |no {w:UInt8} {tx:List UInt8} {tg:Nat} {ks:List Vl} (hw:w≠61) (h:∀x∈ks,Dw x):Dw (.mk w tx tg ks)
theorem Jq.dw{S:List Ty}:∀{d:Nat} {k:Kd} {v:Vl},Jq S d k v->Dw v:=by
 intro d;induction d with
 |zero=>intro k v h;cases h
 |succ d ih=>
  intro k v h;cases h with
  |n=>exact .no aH aI
  |t=>exact .no aH aI
  |f=>exact .no aH aI
  |lst hs hl h=>exact .no aH fun x hx=>ih (h x hx)
  |non=>exact .no aH aI
  |som hs h=>exact .no aH fun x hx=>by rw[an]at hx;subst hx;exact ih h
  |enm=>exact .no aH aI
  |uni hs hb ht h5 hf h=>exact .no aH fun x hx=>by rw[an]at hx;subst hx;exact ih h
  |rcd hs hb ht h2 hf h hn hp=>
   refine .no aH fun x hx=>?_;obtain⟨p,hp,rfl⟩:=au.1 hx;exact .fd (ih (h p hp))
theorem Xn(x:Vl):∀l:List Vl,Gz (l++[x])=max (Gz l) (Nh x)
 |[]=>by simp[Gz]
 |y::l=>by rw[aq,Gz,Xn x l,Gz];omega
theorem Qeb(P:Nat->Prop){v:Vl}(hd:Dw v):∀(sl:Value) (w:World),D1 P w sl v.kids->Nh v<=100000 ->
  Calls prog 61 #[Mg v sl] w fun e w'=>e=.returned (.int .i64 (Nh v:Int))/\Below w w w':=by
 induction hd with
 |@fd tx tg x hx ih=>
  intro sl w h hl;obtain⟨A,c,xs,rfl,hks,hlx,hr,hP,hk⟩:=h;obtain⟨⟨y,ys⟩,rfl⟩:∃a,xs=[a]:=by
   cases xs with
   |nil=>simp[Ar,Vl.kids]at hks
   |cons a l=>cases l with
    |nil=>exact⟨a,rfl⟩
    |cons b l=>simp[Ar,Vl.kids]at hks
  obtain rfl:x=y:=by simpa [Ar,Vl.kids]using hks
  have hdp:Nh (.mk 61 tx tg [x])=Nh x:=by simp[Nh,Gz]
  rw[hdp]at hl ⊢;have hkx:=hk (x,ys) aI;obtain⟨A7,c7,e7⟩:=hkx.form;simp only at e7;subst e7;obtain⟨b,off,rfl,hb,d0,d1,d2,d3⟩:=D1.at_ hr (show 0<1 by decide);simp only[List.getElem_cons_zero,Nat.zero_mul,Nat.add_zero]at d0 d1 d2 d3;have Hkx:=Aa hkx;have Ih:=Aa (fun W h=>ih (.slice A7 x.kids.length c7) W h hl);have hbn:¬(b=w.heap.size):=aE;generalize Nh x=n at *;unfold Mg at Ih ⊢;clear hk hr hP hks hkx ih;simp only[Vl.what,Vl.text,Vl.tag,List.length_singleton];go_enter func61,ntmps61;go_wp2_with fail;refine(Ih.o _ (Hkx.o.after ((Ay _ _).alloc (As _) _))).mono ?_;rintro e w1 ⟨rfl,hb1⟩;have Hb1:=Aa (((Ay w.heap.size w).alloc (As _) _).trans (hb1.mono aI));clear hb1;go_wp2_with fail;go_ret;exact⟨rfl,Hb1.o⟩
 |@no wh tx tg ks hw hks ih=>
  intro sl w h hl;have t61:((wh.toNat:Int) == 61)=false:=Am (d:=61) hw;have hdp:Nh (.mk wh tx tg ks)=Gz ks+1:=by rw[Nh,if_neg hw]
  rw[hdp]at hl ⊢;simp only[Vl.kids]at h;obtain⟨A,c,xs,rfl,rfl,hlx,hr,hP,hk⟩:=h;have Hdp:=Aa hdp;have Hr:=Aa hr;have Hk:=Aa hk;have Hle:=Aa ((S9 (Ar xs) 100000).1 aE);have Ih:=Aa (fun x hx s W h=>ih x hx s W h (Hle.o x hx));clear hr hk hP ih hks hw;unfold Mg;simp only[Vl.what,Vl.text,Vl.tag];have hxl:(Ar xs).length=xs.length:=by simp[Ar]
  have HF:=Aa (rfl:Ar xs=xs.map (·.1));go_enter func61,ntmps61;go_wp2_with fail;obtain⟨w1,hw1⟩:∃w1,w1=w.alloc (.cells #[.int .u8 (wh.toNat:Int),tx,(tg:Int),.slice A xs.length c] 42):=⟨_,rfl⟩
  rw[<-hw1];have Hb1:=Aa (show Below w w w1 by rw[hw1];exact(Ay _ _).alloc (As _) _);have hz1:w.heap.size<w1.heap.size:=dh;have Hr1:=Aa (Hr.o.below Hb1.o);have Hk1:=Aa (fun x hx=>(Hk.o x hx).after Hb1.o);clear hw1 Hr Hk;go_loopw [17,3] (fun i u wr=>∃m:Nat,i=.int .i64 m/\u=.int .i64 (Gz ((xs.take m).map (·.1)):Int)/\m<=xs.length/\Hid (Gz ((xs.take m).map (·.1))<=100000)/\Hid (Below w1 w1 wr)) (fun i _ _=>xs.length - (intOf i).toNat)
  case atStart=>exact⟨0,rfl,rfl,af _,af _,Ay _ _⟩
  case round=>
   obtain⟨m,rfl,rfl,hm,hdm,Hbr⟩:=hrel;have m1:(0:Int)<=(m:Int):=aE;by_cases hlt:m<xs.length
   ·have m2:(m:Int)<(xs.length:Int):=aE;obtain⟨b,off,rfl,hb,d0,d1,d2,d3⟩:=D1.at_ (Hr1.o.below Hbr.o) hlt;have Hkx:=Aa ((Hk1.o _ (ad hlt)).after Hbr.o);have Hmx:=@Aa (xs[m].1∈Ar xs) (am (ad hlt));have Hts:=Aa (Bx xs m hlt);have hsz:w1.heap.size<=wr.heap.size:=Hbr.o.size;have hbn:¬(b=wr.heap.size):=aE;generalize xs[m]=x at *;obtain⟨y,ys⟩:=x;obtain⟨A7,c7,e7⟩:=Hkx.o.form;simp only at e7 d0 d1 d2 d3 Hkx Hmx;subst e7;have hyl:=Hle.o y Hmx.o;have Hx:=Aa (fun W=>Ih.o y Hmx.o (.slice A7 y.kids.length c7) W);have Hsn:=Aa (show Gz ((xs.take (m+1)).map (·.1))=max (Gz ((xs.take m).map (·.1))) (Nh y)by rw[Hts.o,aw];exact Xn y _);unfold Mg at Hx;have hdm':=hdm.o;generalize Gz ((xs.take m).map (·.1))=q at *;generalize Nh y=n at *;go_wp2_with fail;refine(Hx.o _ (Hkx.o.after ((Ay _ _).alloc (As _) _))).mono ?_;rintro e w3 ⟨rfl,hb3⟩;have Hb3:=Aa (((Ay wr.heap.size wr).alloc (As _) _).trans (hb3.mono aI));clear hb3;go_wp2_with fail;go_roundw
    case rel=>exact⟨m+1,by go_num,by rw[Hsn.o];congr 1;omega,by omega,by rw[Hsn.o];show max q n<=100000;omega,Hbr.o.trans (Hb3.o.mono hsz)⟩
    case measure=>simp[intOf];omega
   ·obtain rfl:m=xs.length:=aE;have Hb6:=Aa (Hb1.o.trans (Hbr.o.mono aE));have HD:=Aa (show Gz ((xs.take xs.length).map (·.1))=Gz (Ar xs)by rw[List.take_length];rfl);have hd2:=hdm.o;generalize Gz ((xs.take xs.length).map (·.1))=q at *;go_wp2_with fail;go_ret;exact⟨Qhi (by have:=HD.o;have:=Hdp.o;omega),Hb6.o⟩
theorem Qe9{st:UInt8}{f:Fd}(h:Q5 st f):f.given.length<=14:=by
 by_cases hs:st=69
 ·rw[(h.2.2.2.1 hs).2];simp
 by_cases hg:f.given=[]
 ·rw[hg];simp
 have:=((h.2.2.2.2 hs).2 hg).2.2;unfold Bw at this;split at this
 ·split at this
  ·rename_i n hd;have:=Cb.1 hd;rw[this.2];have:=Df 5 n dA;omega
  cases this
 split at this
 ·simp only[ar,decide_eq_true_eq]at this;have h4:=this.2;unfold Dq at h4;simp only[ar,decide_eq_true_eq,List.length_dropLast,List.length_drop]at h4;omega
 split at this
 ·simp only[decide_eq_true_eq]at this;rw[this];simp
 cases this
theorem Qbs(w0:World)(b N:Nat)(p:Value)(XS:List PT)(hsc:S7 w0 p XS)(t:List UInt8)(k:Kd)(w:World)(hw:Below w0 w0 w)(hb:w0.heap.size<=b)(h:Dp w b p t false)(hl:t.length<=900)(hs:k.signs=[])(hbs:k.base=[64])(hnm:k.name.length<=100)
  (x:PT) (hxf:Ew XS k.name=some x) (q:Option (Vl × List UInt8)) (HO:∀W,Below w0 w0 W->Dp W b p t false->Calls prog 100 #[b,.pointer (some ⟨x.blk,0,none⟩)] W (Kh W b p t (N+1) q)):
  Calls prog 57 #[b,Gb k] w (Kh w b p t (N+1) q):=by
 have HH:=Aa HO;obtain⟨pb,A,c,mb,rfl,hpb,hc0,hc1,_,hnd,_,_⟩:=hsc
 have HN:=Aa (fun W (h:Below w0 w0 W)=>show (Instr.lookup 78 (.map (some mb)) k.name false).run prog W=.ok (.pointer (some ⟨x.blk,0,none⟩)) W from by
  have:=Fq (Dv.below hnd h) k.name aE;rw[hxf]at this;exact this)
 have HM:=Aa (fun W (h:Below w0 w0 W)=>(h.cell (p:=⟨pb,1,none⟩) hpb).trans hc1);have HS:=Aa h;have HW:=Aa hw;have hb0:=h.1;have hbn:¬(b=w.heap.size):=aE;have hbn2:¬(b=w.heap.size+1):=aE;have c2:=h.2.2.2.2;obtain⟨sg,bs,nm⟩:=k;simp only at hs hbs HN;subst hs hbs;unfold Gb;simp only;clear h hw hxf HO hc0 hc1 hnd;go_enter func57,ntmps57;go_wp2_with fail;refine(El _ _ _).mono ?_;rintro e w2 ⟨rfl,hb2⟩;have F2:=Aa ((Ev.init (k:=⟨[],[64],nm⟩) HS.o).post hb2);clear hb2 c2;have k0:=Ab F2.o.2.1 0 rfl;have k1:=Ab F2.o.2.1 1 rfl;have k2:=Ab F2.o.2.1 2 rfl;simp only[aj]at k0 k1 k2;go_wp2_with fail;have hlz:=F2.o.2.2.2;have SP:=Aa F2.o.1.1.2.2.1;have hbz:=F2.o.1.1.1;refine Bh [52,53,54,55,56,57,58,59,60,61,62,63,999] aJ aJ aJ (fun u=>by dsimp only[Bn,Bk,List.set,aj,Nat.reduceAdd])
  (fun ix v W=>match ix with|0=>v=b|1=>v=b|2=>v=b|3=>v=b|4=>v=pb|5=>v=pb|6=>v=(pb,1)|7=>v=.map (some mb)|8=>v=(w,2)|9=>v=nm|10=>v=.pointer (some ⟨x.blk,0,none⟩)|11=>∃x s,v=Mg x s|_=>True)
  (fun L U W=>(L 11=false->Below w2 w2 W)/\(L 11=true->L 12=false->∃v sl t',U 11=Mg v sl/\D1 (fun c=>w.heap.size+2<=c) W sl v.kids/\Ev w b pb ⟨[],[64],nm⟩ t' q.isNone W/\(∀x,q=some x->v=x.1/\t'=x.2)/\Bd v/\t'.length<=t.length/\(Au v).length+t'.length<=t.length+8*(N+1)) /\
  (L 12=true->∃v sl,Kh w b pb t (N+1) q (.returned (.agg (Em v sl).toArray)) W/\W.rangeAt (w.heap.size+1) 0 (Em v sl))) (fun _ _=>True) (fun _ _ _ _ _ h=>h) (⟨fun _=>(Ay _ _).drew,fun h=>Bool.noConfusion h,fun h=>Bool.noConfusion h⟩) ?_ ?_
 ·repeat (first|exact Ba.nil|(refine Ba.cons ?_ ?_;rotate_left))
  all_goals
   rintro L U W hL hpre hR hun hdep K hK;have HR:=Aa hR;obtain⟨R1,R2,R3⟩:=HR.o;have Hdep:=Aa hdep;clear hun hdep hR;first|(simp[Region.binds]at hpre;done)|simp[Region.binds]at hpre|clear hpre
  iterate 4
   ·exact fG
  ·have h5:L 5=false:=Ce Hdep.o 5 4 rfl hL;have h6:L 6=false:=Ce Hdep.o 6 5 rfl h5;have h7:L 7=false:=Ce Hdep.o 7 6 rfl h6;have h10:L 10=false:=Ce Hdep.o 10 7 rfl h7;have h11:L 11=false:=Ce Hdep.o 11 10 rfl h10;have hB:=R1 h11;have hW2:=(F2.o.post hB).1.env HW.o hb;have p0:W.cell? (b,0)=pb:=(hB.cell (p:=⟨b,0,none⟩) hbz).trans SP.o;exact iW
  iterate 2
   ·exact fG
  ·have h10:L 10=false:=Ce Hdep.o 10 7 rfl hL;have h11:L 11=false:=Ce Hdep.o 11 10 rfl h10;have hB:=R1 h11;have hW2:=(F2.o.post hB).1.env HW.o hb;have m1:=HM.o W hW2;exact iW
  ·exact fG
  ·have h10:L 10=false:=Ce Hdep.o 10 9 rfl hL;have h11:L 11=false:=Ce Hdep.o 11 10 rfl h10;have hB:=R1 h11;have hW2:=(F2.o.post hB).1.env HW.o hb;have n2:W.cell? (w,2)=nm:=(hB.cell (p:=⟨w.heap.size,2,none⟩) (show w.heap.size<_ by omega)).trans k2;exact iW
  ·have h11:L 11=false:=Ce Hdep.o 11 10 rfl hL;have hB:=R1 h11;have hW2:=(F2.o.post hB).1.env HW.o hb;have hlk:=HN.o W hW2;exact iW
  ·have h12:L 12=false:=Ce Hdep.o 12 11 rfl hL;have hB:=R1 hL;have F3:=F2.o.post hB;go_simp;refine(HH.o W (F3.1.env HW.o hb) F3.1.1).mono ?_;rintro e w5 ⟨v,sl,t',rfl,hk5,hs5,hx5,hB5,hl5,hn5⟩;exact hK (Mg v sl) _ _ ⟨v,sl,rfl⟩ Ad ⟨fun h=>by simp at h,fun _ _=>⟨v,sl,t',rfl,hk5.mono fun c hc _=>(by have:=hB.size;omega),F3.step hb0 hs5,hx5,hB5,hl5,hn5⟩,fun h=>absurd (h12.symm.trans bg) aH⟩ aF
  ·have l11:L 11=true:=hpre.1.1;obtain⟨v,sl,t',u11,hk5,F5,hx5,hB5,hl5,hn5⟩:=R2 l11 hL;obtain⟨A7,c7,rfl⟩:=hk5.form;have Z:=Ev.fin (w9:=W.setCells (w.heap.size+1) 0 (Em v (.slice A7 v.kids.length c7))) (t:=t) (N:=N+1) (v:=v) (sl:=.slice A7 v.kids.length c7) (r:=q) F5 hb0 rfl hk5 rfl hx5 hB5 hl5 hn5;rw[if_pos cx];refine wp_store_mid 42 _ _ rfl (w.heap.size+1) 0 (Em v (.slice A7 v.kids.length c7)).toArray rfl u11 F5.2.2.1 aJ (by simp[Em,Value.oneCell']) ?_;exact hK undef _ _ Ad Ad ⟨fun h=>absurd (l11.symm.trans bg) aH,fun _ h=>by simp at h,fun _=>⟨v,_,Z.1,Z.2⟩⟩ rfl
 rintro L U W hL hφ hR;clear hφ;obtain⟨_,_,h3⟩:=hR;obtain⟨v,sl,Z1,Z2⟩:=h3 (hL 12 aH);clear hL h3;go_wp2_with fail;exact aC (v:=.agg (Em v sl).toArray) (Ag results57 _ _ (w.heap.size+1) _ _ rfl Z2 underlying42 rfl aJ) rfl Z1
theorem Qbi(w0:World)(b N:Nat)(p:Value)(S:List Ty)(t:List UInt8)(k:Kd)(w:World)(hw:Below w0 w0 w)(hb:w0.heap.size<=b)(h:Dp w b p t false)(hl:t.length<=900)(hN:t.length<=N)(hN2:N<=2000)(sg:List UInt8)(hs:k.signs=91::sg)(hsl:sg.length<=100)
  (H:IvC w0 b p S N k.part) (HG:∀s v r,Ak S 1000 N k.part s=some (v,r)->s=Au v++r) (q:Option (Vl × List UInt8)) (hq:q=Kl (Ak S 1000 N k.part) 1000 t):
  Calls prog 57 #[b,Gb k] w (Kh w b p t (N+1) q):=by
 have HL:=Aa (fun W (h1:Below w0 w0 W) (h2:Dp W b p t false)=>Qc9 w0 b N p S t k.part W h1 hb h2 hl hN hN2 H HG q hq);have HP:=Aa (fun W=>Pf k W 91 sg hs aE);have HS:=Aa h;have HW:=Aa hw;have hb0:=h.1;have hbn:¬(b=w.heap.size):=aE;have hbn2:¬(b=w.heap.size+1):=aE;have c2:=h.2.2.2.2;obtain⟨sg',bs,nm⟩:=k;simp only at hs;subst hs;generalize hkp:(⟨91::sg,bs,nm⟩:Kd).part=kp at *;unfold Gb at HP ⊢ HL;simp only at HP ⊢;clear h hq hw H HG hkp;go_enter func57,ntmps57;go_wp2_with fail;refine(Fr 91 sg aE _ _ _).mono ?_;rintro e w2 ⟨rfl,hb2⟩;have F2:=Aa ((Ev.init (k:=⟨91::sg,bs,nm⟩) HS.o).post hb2);clear hb2 c2;have k0:=Ab F2.o.2.1 0 rfl;have k1:=Ab F2.o.2.1 1 rfl;have k2:=Ab F2.o.2.1 2 rfl;simp only[aj]at k0 k1 k2;go_wp2_with fail;refine(HP.o _).mono ?_;rintro e w3 ⟨rfl,hb3⟩;have F3:=Aa (F2.o.post hb3);clear hb3 k0 k1 k2;go_wp2_with fail;refine(HL.o _ (F3.o.1.env HW.o hb) F3.o.1.1).mono ?_;rintro e w4 ⟨v,sl,t',rfl,hk4,hs4,hx4,hB4,hl4,hn4⟩;obtain⟨A7,c7,rfl⟩:=hk4.form;have F4:=Aa (F3.o.step hb0 hs4);have hz3:=F3.o.2.2.2;have Hk4:=Aa hk4;have Hx4:=Aa hx4;have HB4:=Aa hB4;clear hs4 hk4 hx4 hB4;unfold Mg;go_wp2_with ((with_reducible refine Ac (op:=⟨none,.store 42 _ _,_,_,_,none⟩) rfl 42 _ _ rfl (w.heap.size+1) 0 (Em v (.slice A7 v.kids.length c7)) ?_ ?_ ?_ ?_ ?_ ?_);rfl;rfl;(exact F4.o.2.2.1);kernel_rfl;(simp[Em,Value.oneCell']);intro w9 HS9)
 have Z:=Ev.fin (t:=t) (N:=N+1) (v:=v) (sl:=.slice A7 v.kids.length c7) (r:=q) F4.o hb0 HS9.o (Hk4.o.mono fun c hc _=>by omega) rfl Hx4.o HB4.o hl4 hn4;exact aC (v:=.agg (Em v (.slice A7 v.kids.length c7)).toArray) (Ag results57 _ _ (w.heap.size+1) _ _ rfl Z.2 underlying42 rfl aJ) rfl Z.1
theorem Qa8(w0:World)(b:Nat)(p:Value)(XS:List PT)(hsc:S7 w0 p XS)(hS:No (Af XS))(hb:w0.heap.size<=b):∀(N:Nat),N<=2000->∀(k:Kd),C0 k->B9 (Af XS) k->IvC w0 b p (Af XS) N k:=by
 intro N;induction N with
 |zero=>
  intro _ k hk hr t bad w hw h hl hN;cases bad with
  |true=>exact T0 b 0 p t k w h
  |false=>exact absurd (hN rfl) (Nat.not_lt_zero _)
 |succ N ih=>
  intro hN2 k hk hr t bad w hw h hl hN;cases bad with
  |true=>exact T0 b (N+1) p t k w h
  |false=>
   have hN:=Nat.le_of_lt_succ (hN rfl);rw[if_neg aH];have hTy:∀t∈Af XS,Ed t:=hS.1.1;unfold Ak;cases hs:k.signs with
   |cons c sg=>
    simp only;have hsl:sg.length<=100:=by have:=hk.2.2;unfold Bi at this;rw[hs]at this;simp at this;omega
    have hp:=(Gh hk).1;have hrp:B9 (Af XS) k.part:=hr;rcases Kb hk hs with rfl|rfl
    ·rw[if_pos rfl];exact Qbi w0 b N p (Af XS) t k w hw hb h hl hN aE sg hs hsl (ih aE k.part hp hrp) (fun s v r h=>(E9 hTy 1000 N k.part s v r hp h).2) _ rfl
    rw[if_neg aH];exact Qb1 w0 b N p (Af XS) t k w hw hb h hl hN aE sg hs hsl (ih aE k.part hp hrp) _ rfl
   |nil=>
    simp only;by_cases h1:k.base=[110]
    ·rw[if_pos h1];exact Qf4 b N p t k w h hl hs h1 _ rfl
    rw[if_neg h1];by_cases h2:k.base=[116]
    ·rw[if_pos h2];exact Qge b N p t k w h hl hs h2 _ rfl
    rw[if_neg h2];by_cases h3:k.base=[102]
    ·rw[if_pos h3];exact Qe7 b N p t k w h hl hs h3 _ rfl
    rw[if_neg h3];have h64:k.base=[64]:=by
     rcases hk.2.1 with h|⟨h|h|h,_⟩
     ·exact h.1
     ·exact absurd h h1
     ·exact absurd h h2
     exact absurd h h3
    have hnm:k.name.length<=100:=by
     rcases hk.2.1 with h|⟨_,h⟩
     ·have:=(Ep.1 h.2).2.1;omega
     rw[h];simp
    have hr2:=hr h64;rw[Jm]at hr2 ⊢;cases hx:Ew XS k.name with
    |none=>rw[hx]at hr2;cases hr2
    |some x=>
     simp only[Option.map_some];have hxm:=(Fi hx).1;have hxt:=(Fi hx).2.2;have hxi:So w0 x:=by obtain⟨_,_,_,_,_,_,_,_,_,_,h6,_⟩:=hsc;exact h6 x hxm
     have hto:=hTy x.ty (am hxm);refine Qbs w0 b N p XS hsc t k w hw hb h hl hs h64 hnm x hx _ fun W hW hSc=>?_;have htg:∀f∈x.ty.fields,f.tag<=200:=fun f hf=>(hto.2.2.1.1 f hf).2.1;by_cases h9:x.ty.sort=69
     ·exact Qfy w0 b N p (Af XS) x hxi h9 t W hW hb hSc hl _ rfl
     have hfk:∀f∈x.ty.fields,C0 f.kind/\B9 (Af XS) f.kind/\f.given.length<=1000:=fun f hf=>
      ⟨(Js hTy hxt h9 hf).1,hS.2.1 x.ty (Bq hxt).1 h9 f hf,by have:=Qe9 (hto.2.2.1.1 f hf);omega⟩
     have HF:∀f∈x.ty.fields,IvC w0 b p (Af XS) N f.kind:=fun f hf=>ih aE f.kind (hfk f hf).1 (hfk f hf).2.1;by_cases h5:x.ty.sort=85
     ·exact Qfp w0 b N p (Af XS) x hxi h5 t W hW hb hSc hl hN aE htg HF _ rfl
     have h82:x.ty.sort=82:=by
      rcases hto.1 with h|h|h
      ·exact h
      ·exact absurd h h5
      exact absurd h h9
     exact Qfw w0 b N p XS hsc hS x hxi h82 t W hW hb hSc hl hN aE htg hfk HF (fun f hf s v r h=>(E9 hTy 1000 N f.kind s v r (hfk f hf).1 h).2) _ rfl
theorem Qfb(s:List UInt8):s.dropWhile (Qb6.contains ·)=s.dropWhile Ao:=by congr 1;funext c;exact Zm c
theorem Pi(b:Nat)(p:Value)(t:List UInt8)(bad:Bool)(w:World)(h:Dp w b p t bad)(hl:t.length<=4000000):
  Calls prog 59 #[b] w fun e w'=>e=.returned (.string ⟨(t.takeWhile Ao).toArray⟩)/\Da w b p (t.dropWhile Ao) bad w':=by
 have Htl:=Aa (fun W=>Jw t Qb6 W aH aH);simp only[Qfb]at Htl;obtain⟨htk,hdl⟩:=Ns Ao t;have Htk:=Aa htk;unfold Qb6 at Htl;have HS:=Aa h;have kw:IntKind.i64.wrap ((t.length:Int) - ((t.dropWhile Ao).length:Int))=(t.length:Int) - ((t.dropWhile Ao).length:Int):=IntWalk.i64_in _ aE;have k1:(0:Int)<=(t.length:Int) - ((t.dropWhile Ao).length:Int):=aE;have k2:(t.length:Int) - ((t.dropWhile Ao).length:Int)<=(t.length:Int):=aE;have k3:((t.length:Int) - ((t.dropWhile Ao).length:Int)).toNat=t.length - (t.dropWhile Ao).length:=aE;generalize t.takeWhile Ao=a at *;generalize t.dropWhile Ao=r at *;obtain⟨h0,h1,h2,h3,h4⟩:=h;clear htk h1;go_enter func59,ntmps59;go_wp2_with fail;refine(Htl.o _).mono ?_;rintro e w1 ⟨rfl,hb1⟩;have HS1:=Aa (HS.o.grow hb1);have Hb1:=Aa hb1;have c1:=(hb1.cell (p:=⟨b,1,none⟩) h0).trans h3;have hz1:b<w1.heap.size:=by have:=hb1.size;omega
 clear hb1 HS h2 h3 h4;go_wp2_with fail;refine rgD ?_;iterate 12 refine sq ?_
 refine Gy (fun v=>v=a) (by
  intro l u W hl hp hF hG hi K hK;simp[Region.binds,Ck]at hp;go_simp;rw[Htk.o];exact hK _ _ _ rfl hF.o bX) ?_
 refine sq ?_;refine dnB fun w2 HW=>?_;obtain⟨k,hk⟩:=HW.o;have HS2:=Aa (show Dp w2 b p t bad by rw[hk];exact HS1.o.drew k);have Hb2:=Aa (show Below w w w2 by rw[hk];exact below_drewN Hb1.o k);obtain⟨q0,q1,_,q3,_⟩:=HS2.o;have hf1:=q1.live 1;clear q1 hk HW;go_wp2_with fail;go_ret;exact⟨rfl,by simpa using HS2.o.setText r,(Cv Hb2.o _).trans (Ap _ _ _ _)⟩
theorem K0(w0:World)(x:PT)(hx:So w0 x)(n:List UInt8)(w:World)(hb:Below w0 w0 w):
  Calls prog 58 #[x.blk,n] w (Qcf w0.heap.size (Cx x.ty.fields n) w):=by
 obtain⟨z0,_,_,_,z3,_,A,c,hfv,hl,hr⟩:=hx;rw[hfv]at z3;have c2:w.cell? (x.blk,2)=some (.slice A x.ty.fields.length c):=(hb.cell (p:=⟨x.blk,2,none⟩) z0).trans z3;have Hr:=Aa hr;have Hb:=Aa hb;clear hr hfv z3 hb;go_enter func58,ntmps58;go_wp2_with fail;go_loop [11,5] (fun i _=>∃k:Nat,i=.int .i64 k/\k<=x.ty.fields.length/\Hid (∀f∈x.ty.fields.take k,decide (f.name=n)=false)) (fun i _=>x.ty.fields.length - (intOf i).toNat)
 case atStart=>exact⟨0,rfl,af _,by intro f hf;simp at hf⟩
 case round=>
  obtain⟨k,rfl,hk,hin⟩:=hrel;by_cases hlt:k<x.ty.fields.length
  ·obtain⟨b,off,rfl,hbl,hrg⟩:=Sx.range Hr.o hlt;have hrw:=Av hrg hbl Hb.o;have c1:w.cell? ⟨b,off+k*6+1,none⟩=some (.string ⟨(x.ty.fields[k]).name.toArray⟩):=Ab hrw 1 rfl;have k1:(0:Int)<=(k:Int):=aE;have k2:(k:Int)<(x.ty.fields.length:Int):=aE;have Hrw:=Aa hrw;have Hts:=Aa (Bx x.ty.fields k hlt);have Hfk:=@Aa (x.ty.fields[k]?=some x.ty.fields[k]) (List.getElem?_eq_getElem hlt);clear hrw hrg;generalize x.ty.fields[k]=f at *;by_cases he:f.name=n
   ·have t1:(f.name == n)=true:=cu
    have Hfin:=Aa (show Cx x.ty.fields n=some f from by
     unfold Cx;rw[List.find?_eq_some_iff_getElem];exact⟨by simpa using he,k,hlt,by have:=Hfk.o;rw[List.getElem?_eq_getElem hlt]at this;exact Option.some.inj this,fun j hj=>by have:=hin.o x.ty.fields[j] (List.mem_take_iff_getElem.2 ⟨j,by omega,rfl⟩);simpa using this⟩)
    have he':=Aa he;clear he;go_wp2_with fail;exact iO
   have t1:(f.name == n)=false:=cu
   have Hin:=Aa (show ∀g∈x.ty.fields.take (k+1),decide (g.name=n)=false by
    intro g hg;rw[Hts.o]at hg;rcases ae.1 hg with hg|hg
    ·exact gZ
    simp at hg;subst hg;simpa using he)
   clear he;go_wp2_with fail;go_round
   case rel=>exact⟨k+1,by go_num,by omega,Hin.o⟩
   case measure=>simp[intOf];omega
  ·have Hfin:=@Aa (Cx x.ty.fields n=none) (List.find?_eq_none.2 (fun f hf=>by have:=hin.o f cv;simpa using this));go_wp2_with fail;go_ret;exact⟨_,rfl,by rw[Hfin.o];rfl,rfl⟩
def ixL(l:List Nat)(n:Nat):Int:=match l.findIdx? (fun m=>decide (m=n))with|some i=>(i:Int)|none=>-1
theorem Qh5(l:List Nat)(n:Nat):decide (0<=ixL l n)=decide (n∈l):=by
 rw[decide_eq_decide];unfold ixL;cases h:l.findIdx? (fun m=>decide (m=n))with
 |none=>
  rw[List.findIdx?_eq_none_iff]at h;simp only[decide_eq_false_iff_not]at h;exact⟨fun h2=>absurd h2 aI,fun h2=>absurd rfl (h n h2)⟩
 |some i=>
  rw[List.findIdx?_eq_some_iff_getElem]at h;obtain⟨hi,h1,_⟩:=h;simp only[decide_eq_true_iff]at h1;exact⟨fun _=>h1 ▸ ad hi,fun _=>by simp⟩
theorem Qbb(A:Option Addr)(c:Nat)(l:List Nat)(n:Nat)(w:World)(hr:B8 w A l.length (B6 l))(hl:l.length<=1000)(hn:n<=1000000)(hln:∀m∈l,m<=1000000):
  Calls prog 133 #[.slice A l.length c,(n:Int)] w fun e w'=>e=.returned (.int .i64 (ixL l n))/\w=w':=by
 have Hr:=Aa hr;have Hln:=Aa hln;clear hr hln;go_enter func133,ntmps133;go_wp2_with fail;go_loop [8,5] (fun i _=>∃k:Nat,i=.int .i64 k/\k<=l.length/\Hid (∀m∈l.take k,decide (m=n)=false)) (fun i _=>l.length - (intOf i).toNat)
 case atStart=>exact⟨0,rfl,af _,by intro f hf;simp at hf⟩
 case round=>
  obtain⟨k,rfl,hk,hin⟩:=hrel;by_cases hlt:k<l.length
  ·obtain⟨b,off,rfl,hb,hc⟩:=Hr.o.2.2 aE;have c0:w.cell? ⟨b,off+k,none⟩=some (.int .i64 (l[k]:Int)):=hc k _ (by simp[B6,hlt]);have k1:(0:Int)<=(k:Int):=aE;have k2:(k:Int)<(l.length:Int):=aE;have hm:=Hln.o _ (ad hlt);have Hts:=Aa (Bx l k hlt);have Hfk:=@Aa (l[k]?=some l[k]) (List.getElem?_eq_getElem hlt);clear hc;generalize l[k]=m at *;by_cases he:m=n
   ·have t1:((n:Int) == (m:Int))=true:=by simp[he]
    have Hfin:=Aa (show ixL l n=(k:Int)from by
     have h:l.findIdx? (fun m=>decide (m=n))=some k:=by
      rw[List.findIdx?_eq_some_iff_getElem];refine⟨hlt,?_,fun j hj=>?_⟩
      ·have:=Hfk.o;rw[List.getElem?_eq_getElem hlt]at this;rw[Option.some.inj this];simpa using he
      have:=hin.o l[j] (List.mem_take_iff_getElem.2 ⟨j,by omega,rfl⟩);simpa using this
     unfold ixL;rw[h])
    clear he;go_wp2_with fail;go_ret;exact⟨by rw[Hfin.o];rfl,rfl⟩
   have t1:((n:Int) == (m:Int))=false:=bK
   have Hin:=Aa (show ∀g∈l.take (k+1),decide (g=n)=false by
    intro g hg;rw[Hts.o]at hg;rcases ae.1 hg with hg|hg
    ·exact gZ
    simp at hg;subst hg;simpa using he)
   clear he;go_wp2_with fail;go_round
   case rel=>exact⟨k+1,by go_num,by omega,Hin.o⟩
   case measure=>simp[intOf];omega
  ·have Hfin:=Aa (show ixL l n = -1 from by
    have h:l.findIdx? (fun m=>decide (m=n))=none:=List.findIdx?_eq_none_iff.2 (fun f hf=>hin.o f cv);unfold ixL;rw[h])
   go_wp2_with fail;go_ret;exact⟨by rw[Hfin.o];rfl,rfl⟩
theorem Mf(A:Option Addr)(c:Nat)(l:List Nat)(n:Nat)(w:World)(hr:B8 w A l.length (B6 l))(hl:l.length<=1000)(hn:n<=1000000)(hln:∀m∈l,m<=1000000):
  Calls prog 101 #[.slice A l.length c,(n:Int)] w fun e w'=>e=.returned (.bool (decide (n∈l)))/\w=w':=by
 have HI:=Aa (Qbb A c l n w hr hl hn hln);have HX:=Aa (Qh5 l n);generalize ixL l n=z at *;clear hr hln;go_enter func101,ntmps101;go_wp2_with fail;refine HI.o.mono ?_;rintro e w1 ⟨rfl,rfl⟩;go_wp2_with fail;go_ret;exact⟨by rw[<-HX.o];rfl,rfl⟩
def Kx(w:World)(b:Nat)(p:Value)(t:List UInt8)(r:Option (Vl × List UInt8))(e:Ending)(w':World):Prop:=
 ∃(v:Vl) (sl:Value) (t':List UInt8),e=.returned (Mg v sl)/\D1 (fun c=>w.heap.size<=c) w' sl v.kids/\Da w b p t' r.isNone w'/\(∀x,r=some x->v=x.1/\t'=x.2)/\t'.length<=t.length
def IuC(w0:World)(b:Nat)(p:Value)(S:List Ty)(d:Nat)(k:Kd):Prop:=
 ∀(t:List UInt8) (bad:Bool) (w:World) (dp:Nat),dp+d=13->Below w0 w0 w->Dp w b p t bad->t.length<=700 ->
  Calls prog 24 #[b,Gb k,(dp:Int)] w (Kx w b p t (if bad then none else B2 S d k t))
theorem Ev.finU{w W w9:World}{b:Nat}{p:Value}{k:Kd}{t t':List UInt8}{bad':Bool}{v:Vl}{sl:Value}{r:Option (Vl × List UInt8)}(F:Ev w b p k t' bad' W)(hb:b<w.heap.size)(HS:w9=W.setCells (w.heap.size+1) 0 (Em v sl))
  (hv:D1 (fun c=>w.heap.size+2<=c) W sl v.kids) (hr:bad'=r.isNone) (hx:∀x,r=some x->v=x.1/\t'=x.2) (hl:t'.length<=t.length):
  Kx w b p t r (.returned (.agg (Em v sl).toArray)) w9/\w9.rangeAt (w.heap.size+1) 0 (Em v sl):=by
 subst HS hr;exact⟨⟨v,sl,t',rfl,(hv.set (B:=w.heap.size+1) aE _).mono fun c hc _=>by omega,F.1.set aE aE _,hx,hl⟩,aa _ _ _ _ F.2.2.1⟩
theorem Qdp{S:List Ty}{k:Kd}(hk:C0 k)(hs:k.signs=[])(hb:k.base≠[64])(t:List UInt8):Ak S 1000 901 k t=Ak S 1000 1 k t:=by
 have h3:k.base=[110]\/k.base=[116]\/k.base=[102]:=by
  rcases hk.2.1 with⟨h,_⟩|⟨h,_⟩
  ·exact absurd h hb
  exact h
 unfold Ak;rw[hs];simp only;rcases h3 with h|h|h<;>simp[h]
theorem Qci(b:Nat)(p:Value)(t:List UInt8)(bad:Bool)(k:Kd)(dp:Nat)(hdp:dp<=13)(hbd:bad=true\/dp=13)(w:World)(h:Dp w b p t bad):
  Calls prog 24 #[b,Gb k,(dp:Int)] w (Kx w b p t none):=by
 have HS:=Aa h;obtain⟨h0,h1,h2,h3,h4⟩:=h;have hbn:¬(b=w.heap.size):=aE;have hbn1:¬(b=w.heap.size+1):=aE;have hf2:=h1.live 2;have HF0:=Aa (Ev.init (k:=k) HS.o (T:=39) (U:=42));have hb0:=h0;clear h1 h2 h3;have Hs1:=@Aa (Da w b p t true (w.setCell ⟨b,2,none⟩ (.bool true))) ⟨HS.o.setBad true,Ap _ b 2 _⟩;clear HF0;unfold Gb;cases bad with
 |true=>
  go_enter func24,ntmps24;go_wp2_with fail;have F:=Ev.init (k:=k) Hs1.o.1 (T:=39) (U:=42);refine aC (v:=.agg (Em H5 (.slice none 0 0)).toArray) ?_ rfl ⟨H5,.slice none 0 0,t,rfl,D1.nil _ _,Hs1.o.trans F.1,aI,As _⟩;refine Ag results24 _ _ (w.heap.size+1) _ _ rfl ?_ underlying42 rfl aJ;have:=Ch ((w.setCell ⟨b,2,none⟩ (.bool true)).alloc (.cells #[k.signs,k.base,k.name] 39)) [.int .u8 0,a8,.int .i64 0,.slice none 0 0] 42;simpa [Em,H5,Vl.what,Vl.text,Vl.tag]using this
 |false=>
  obtain rfl:dp=13:=hbd.resolve_left aH;go_enter func24,ntmps24;go_wp2_with fail;have F:=Ev.init (k:=k) Hs1.o.1 (T:=39) (U:=42);refine aC (v:=.agg (Em H5 (.slice none 0 0)).toArray) ?_ rfl ⟨H5,.slice none 0 0,t,rfl,D1.nil _ _,Hs1.o.trans F.1,aI,As _⟩;refine Ag results24 _ _ (w.heap.size+1) _ _ rfl ?_ underlying42 rfl aJ;have:=Ch ((w.setCell ⟨b,2,none⟩ (.bool true)).alloc (.cells #[k.signs,k.base,k.name] 39)) [.int .u8 0,a8,.int .i64 0,.slice none 0 0] 42;simpa [Em,H5,Vl.what,Vl.text,Vl.tag]using this
end
end Go.Proofs.YtkigmebejmmikaaGreatDoor
