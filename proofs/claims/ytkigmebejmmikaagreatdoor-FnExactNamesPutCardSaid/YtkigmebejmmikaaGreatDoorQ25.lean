/- Texts joined. Conditions: as each theorem names them. -/
import Derived.Test.YtkigmebejmmikaaGreatDoorQ24
set_option maxRecDepth 100000
set_option maxHeartbeats 32000000
set_option linter.unusedVariables false
set_option linter.unusedSimpArgs false
namespace Go.Proofs.YtkigmebejmmikaaGreatDoor
open Go.RowKit Go.Proofs.Tryz
section
attribute [local go_sem] Qja Qit Qib Qgw ByteArray.mk_append_mk
def Qex(q1:Option ((Fd × Vl) × List UInt8))(t2:List UInt8):Option (Vl × List UInt8):=match q1 with
 |none=>none
 |some (p,_)=>if (Ax [62] t2 false).isNone then none else some (.mk 85 [] p.1.tag [p.2],(Ax [62] t2 false).getD t2)
theorem Qhv(K:Kd->List UInt8->Option (Vl × List UInt8))(fs:List Fd)(t t1 t2:List UInt8)(b1:Bool)(q1:Option ((Fd × Vl) × List UInt8))(h1:t1=(Ax [60] t false).getD t)(hb1:b1=(Ax [60] t false).isNone)(h2:q1=if b1 then none else Cr K fs t1)(h3:∀y,q1=some y->t2=y.2):
  (match Am 60 t with
   |none=>none
   |some r=>match Cr K fs r with
    |none=>none
    |some (p,q)=>match Am 62 q with|some z=>some (Vl.mk 85 [] p.1.tag [p.2],z)|none=>none) =
  Qex q1 t2:=by
 rw[B6]at h1 hb1
 simp only[Bool.false_eq_true,if_false]at h1 hb1
 cases hy:Am 60 t with
 |none=>rw[hy]at hb1;simp at hb1;subst hb1;simp at h2;subst h2;simp[Qex]
 |some r=>
  rw[hy]at h1 hb1
  simp at h1 hb1
  subst h1 hb1
  simp only[Bool.false_eq_true,if_false]at h2
  subst h2
  simp only
  cases hk:Cr K fs t1 with
  |none=>simp[Qex]
  |some y=>
   obtain⟨p,q⟩:=y
   obtain rfl:=h3 _ hk
   simp only[Qex,B6,Bool.false_eq_true,if_false]
   cases Am 62 t2<;>simp
structure Zv(w0 w:World)(b B X:Nat)(p:Value)(t:List UInt8)(bad:Bool)(g:Fd)(x:Vl)(fp:Value)(sl h2 h3:Value)(W:World):Prop where
 f:Nx w b p w.heap.size t bad W
 v:Vb B W (.int .u8 85) (.string ⟨#[]⟩) h2 h3
 xr:W.rangeAt X 0 [.int .u8 61,.string ⟨#[]⟩,.int .i64 (g.tag:Int),sl]
 k:D8 (fun c=>B<c) W sl [x]
 p:H5 w0.heap.size W fp (some g)
 lw:Below w0.heap.size w0 W
theorem Zv.put{w0 w W:World}{b B X o:Nat}{p:Value}{t:List UInt8}{bad:Bool}{g:Fd}{x:Vl}{fp sl h2 h3 h2' h3':Value}(h:Zv w0 w b B X p t bad g x fp sl h2 h3 W)(u:Value)(hV:Vb B (W.setCell ⟨B,o,none⟩ u) (.int .u8 85) (.string ⟨#[]⟩) h2' h3')
  (hb:b<w.heap.size) (hB:w.heap.size<B) (hX:B<X) (h0:w0.heap.size<=w.heap.size):Zv w0 w b B X p t bad g x fp sl h2' h3' (W.setCell ⟨B,o,none⟩ u):=by
 have hg:=Bc W B o u
 have hlw:Below w0.heap.size w0 (W.setCell ⟨B,o,none⟩ u):=h.lw.grown hg h.lw.size fun k hk=>by injection hk with hk;omega
 exact⟨h.f.app hb hg (fun k e=>by injection e with e;omega),hV,Fz h.xr hg (by intro e;injection e with e;omega),h.k.grown hg (fun c hc e=>by injection e with e;omega),h.p.via h.lw hlw,hlw⟩
theorem Zv.drew{w0 w W:World}{b B X:Nat}{p:Value}{t:List UInt8}{bad:Bool}{g:Fd}{x:Vl}{fp sl h2 h3:Value}(h:Zv w0 w b B X p t bad g x fp sl h2 h3 W):Zv w0 w b B X p t bad g x fp sl h2 h3 W.drew:=
 ⟨h.f.post (As _ _).drew,h.v.after (As _ _).drew,h.xr,h.k.after (As _ _).drew,h.p.via h.lw h.lw.drew,h.lw.drew⟩
theorem Qgc(w0:World)(b N:Nat)(p:Value)(S:List Ty)(x:PT)(hx:Qv w0 x)(h5:x.ty.sort=85)(t:List UInt8)(w:World)(hw:Below w0.heap.size w0 w)(hb:w0.heap.size<=b)(h:Fs w b p t false)(hl:t.length<=900)(hN:t.length<=N)(hN2:N<=2000)
  (htg:∀f∈x.ty.fields,f.tag<=200) (H:∀f∈x.ty.fields,IvC w0 b p S N f.kind) (q:Option (Vl × List UInt8)) (hq:q=Jl S (Ai S 1000 N) x.ty t):
  Calls prog 100 #[.pointer (some ⟨b,0,none⟩),.pointer (some ⟨x.blk,0,none⟩)] w (J2 w b p t (N+1) q):=by
 have HQ:=Aa (hq.trans (by unfold Jl;rw[if_neg (by rw[h5];decide),if_pos h5]))
 have HS:=Aa h
 have HW:=Aa hw
 have hb0:=h.1
 have hx0:=hx.1
 have hww:=hw.size
 have x0:=(hw.cell (p:=⟨x.blk,0,none⟩) hx0).trans hx.2.2.1
 have hxw:x.blk<w.heap.size:=by omega
 have hxn:¬(x.blk=w.heap.size):=by omega
 have hxn2:¬(x.blk=w.heap.size+1):=by omega
 rw[h5]at x0
 have x0':w.cell? ⟨x.blk,0,none⟩=some (.int .u8 85):=x0
 clear x0
 have hm:=Ea 60 t false
 have Hwt:=Aa (fun W (h:Fs W b p t false)=>C0 b p t [60] false W h (by omega))
 obtain⟨t1,ht1⟩:∃t1,t1=(Ax [60] t false).getD t:=⟨_,rfl⟩
 obtain⟨b1,hb1⟩:∃b1,b1=(Ax [60] t false).isNone:=⟨_,rfl⟩
 obtain⟨q1,hq1⟩:∃q1,q1=if b1 then none else Cr (Ai S 1000 N) x.ty.fields t1:=⟨_,rfl⟩
 have HQ2:=Aa (fun t2 h3=>HQ.o.trans (Qhv (Ai S 1000 N) x.ty.fields t t1 t2 b1 q1 ht1 hb1 hq1 h3))
 rw[<-ht1]at hm
 rw[<-ht1,<-hb1]at Hwt
 have Hfd:=Aa (fun W (h1:Below w0.heap.size w0 W) (h2:Fs W b p t1 b1)=>Qaq w0 b N p S x hx t1 W h1 hb b1 h2 (by omega) (fun _=>by omega) hN2 htg H q1 hq1)
 clear ht1 hb1 h hw hq h5 HQ hq1 H
 go_enter func100,ntmps100
 go_wp2_with fail
 have F1:=Aa ((Nx.init HS.o (T:=42)).post ((As _ _).alloc (Ap _) (.cells #[.int .u8 85,.string ⟨#[]⟩,.int .i64 0,.slice none 0 0] 42)))
 have V1:=Aa (show Vb (w.heap.size+1) _ _ _ _ _ from by have:=Vb.new (w:=w.alloc (.cells #[.int .u8 0,.string ⟨#[]⟩,.int .i64 0,.slice none 0 0] 42)) (h0:=.int .u8 85) (h1:=.string ⟨#[]⟩) (h2:=.int .i64 0) (h3:=.slice none 0 0) (T:=42);simpa using this)
 refine(Hwt.o _ F1.o.1.1).mono ?_
 rintro e w2 ⟨rfl,hs2⟩
 have F2:=Aa (F1.o.step hb0 hs2)
 have V2:=Aa (V1.o.grown hs2.2 (by simp;omega))
 have hz2:w.heap.size+2<=w2.heap.size:=by have:=hs2.2.size;simp at this;omega
 clear hs2 F1 V1
 go_wp2_with fail
 refine(Hfd.o _ (F2.o.1.env HW.o hb) F2.o.1.1).mono ?_
 rintro e w3 ⟨v,sl,fp,t2,rfl,hk3,hs3,hB3,hl3,hn3,hcase⟩
 obtain⟨A7,c7,rfl⟩:=hk3.form
 have F3:=Aa (F2.o.step hb0 hs3)
 have V3:=Aa (V2.o.grown hs3.2 (by simp;omega))
 have Hk3:=Aa hk3
 have hz3:w2.heap.size<=w3.heap.size:=hs3.2.size
 clear hs3 F2 V2 hk3
 unfold G1
 have hm3:=Ea 62 t2 q1.isNone
 have Hwt2:=Aa (fun W (h:Fs W b p t2 q1.isNone)=>C0 b p t2 [62] q1.isNone W h (by omega))
 rcases hcase with⟨rfl,hq1⟩|⟨g,y,hfp,rfl,hfg,hBy,hy⟩
 ·have HQ3:=Aa (show q=none from by rw[HQ2.o t2 (by rw[hq1];simp),hq1];rfl)
  have hw3:Ax [62] t2 q1.isNone=none:=by rw[hq1,B6];rfl
  rw[hw3]at Hwt2
  simp only[Option.getD_none,Option.isNone_none]at Hwt2
  clear hq1 hw3 HQ2 hB3
  go_wp2_with fail
  have F4:=Aa (F3.o.post ((As w3.heap.size w3).alloc (Ap _) (.cells #[.int .u8 (v.what.toNat:Int),.string ⟨v.text.toArray⟩,.int .i64 (v.tag:Int),.slice A7 v.kids.length c7] 42)))
  have V4:=Aa (V3.o.after ((As w3.heap.size w3).alloc (Ap _) (.cells #[.int .u8 (v.what.toNat:Int),.string ⟨v.text.toArray⟩,.int .i64 (v.tag:Int),.slice A7 v.kids.length c7] 42)))
  refine(Hwt2.o _ F4.o.1.1).mono ?_
  rintro e w5 ⟨rfl,hs5⟩
  have F5:=Aa (F4.o.step hb0 hs5)
  have V5:=Aa (V4.o.grown hs5.2 (by simp;omega))
  have d0:=V5.o.c0
  have d1:=V5.o.c1
  have d2:=V5.o.c2
  have d3:=V5.o.c3
  clear hs5 F4 V4
  go_wp2_with ((with_reducible refine Ad (op:=⟨none,.store 42 _ _,_,_,_,none⟩) rfl 42 _ _ rfl w.heap.size 0 [.int .u8 85,.string ⟨#[]⟩,.int .i64 0,.slice none 0 0] ?_ ?_ ?_ ?_ ?_ ?_);rfl;rfl;(exact F5.o.2.1);kernel_rfl;(simp[Value.oneCell']);intro w9 HS9)
  have Z:=Nx.fin (v:=.mk 85 [] 0 []) (sl:=.slice none 0 0) F5.o hb0 HS9.o (D8.nil _ _)
  exact bodyPost_ret (v:=.agg (G6 (.mk 85 [] 0 []) (.slice none 0 0)).toArray) (Ay results100 _ _ w.heap.size _ _ rfl Z.2.2 underlying42 rfl (by kernel_rfl)) rfl ⟨.mk 85 [] 0 [],_,t2,rfl,Z.1,by rw[HQ3.o];exact Z.2.1,by rw[HQ3.o];simp,El (by decide) (by decide),by omega,by simp[Az,Dx,E8,Ak,D1];omega⟩
 have HQ3:=Aa (HQ2.o t2 (fun z hz=>by rw[hy z hz]))
 obtain⟨t4,ht4⟩:∃t4,t4=(Ax [62] t2 q1.isNone).getD t2:=⟨_,rfl⟩
 obtain⟨b4,hb4⟩:∃b4,b4=(Ax [62] t2 q1.isNone).isNone:=⟨_,rfl⟩
 rw[<-ht4,<-hb4]at Hwt2
 rw[<-ht4]at hm3
 have HQ4:=Aa (show q=if b4 then none else some (.mk 85 [] g.tag [y],t4)from by
  rw[HQ3.o]
  cases hq1:q1 with
  |none=>rw[hq1,B6]at hb4;simp at hb4;subst hb4;rfl
  |some z=>
   obtain⟨z1,z2⟩:=z
   have:=hy _ hq1
   injection this with e1 e2
   subst e1
   rw[hq1]at ht4 hb4
   unfold Qex
   simp only
   rw[ht4,hb4];rfl)
 have hpl:=Pb (g,y)
 obtain⟨fb,fo,rfl,hfb,hfr⟩:=hfp
 have HP3:=Aa (show H5 w0.heap.size w3 (.pointer (some ⟨fb,fo,none⟩)) (some g)from⟨fb,fo,rfl,hfb,hfr⟩)
 have hgt:=htg g (Bk hfg).2
 have HBy:=Aa hBy
 clear ht4 hb4 HQ2 HQ3 hB3 hfr hy hBy hfg
 simp only[Dg,Vl.what,Vl.text,Vl.tag,Vl.kids,List.length_singleton]at Hk3 hn3 ⊢
 go_wp2_with fail
 obtain⟨W4,hW4⟩:∃W4,W4=w3.alloc (.cells #[.int .u8 61,.string ⟨#[]⟩,.int .i64 (g.tag:Int),.slice A7 1 c7] 42):=⟨_,rfl⟩
 have hb4:Below w3.heap.size w3 W4:=by rw[hW4];exact(As _ _).alloc (Ap _) _
 have X4:=Aa (show W4.rangeAt w3.heap.size 0 [.int .u8 61,.string ⟨#[]⟩,.int .i64 (g.tag:Int),.slice A7 1 c7]from by rw[hW4];exact Ck w3 [.int .u8 61,.string ⟨#[]⟩,.int .i64 (g.tag:Int),.slice A7 1 c7] _)
 have hz4:w3.heap.size<W4.heap.size:=by rw[hW4];simp
 have F4:=Aa (F3.o.post hb4)
 have V4:=Aa (V3.o.after hb4)
 have Hk4:=Aa (Hk3.o.after hb4)
 have HP4:=Aa (HP3.o.via (F3.o.1.env HW.o hb) (F4.o.1.env HW.o hb))
 have hW4':w3.alloc (.cells #[.int .u8 ((61:UInt8).toNat:Int),.string ⟨([]:List UInt8).toArray⟩,.int .i64 (g.tag:Int),.slice A7 1 c7] 42)=W4:=hW4.symm
 first|rw[<-hW4]|rw[hW4']
 generalize w3.heap.size=BX at *
 clear hW4 hW4' hb4 F3 V3 Hk3 HP3
 refine(Hwt2.o _ F4.o.1.1).mono ?_
 rintro e w5 ⟨rfl,hs5⟩
 have F5:=Aa (F4.o.step hb0 hs5)
 have V5:=Aa (V4.o.grown hs5.2 (by simp;omega))
 have U5:=Aa (show Zv w0 w b (w.heap.size+1) BX p t4 b4 g y (.pointer (some ⟨fb,fo,none⟩)) (.slice A7 1 c7) (.int .i64 0) (.slice none 0 0) w5 from
  ⟨F5.o,V5.o,Fz X4.o hs5.2 (by simp;omega),(Hk4.o.grown hs5.2 (fun c hc e=>by injection e with e;omega)).mono (fun c hc _=>by omega),HP4.o.via (F4.o.1.env HW.o hb) (F5.o.1.env HW.o hb),F5.o.1.env HW.o hb⟩)
 clear hs5 F4 V4 X4 Hk4 HP4
 go_wp2_with fail
 refine P3 [107,108,109,110,111,112,113,999,114,998]
  (fun ix v W=>match ix with|0=>v=.pointer (some ⟨fb,fo,none⟩)|1=>v=.pointer (some ⟨fb,fo,none⟩)|2=>v=.pointer (some ⟨fb,fo,none⟩)|3=>v=.int .i64 (g.tag:Int)|4=>v=.pointer (some ⟨BX,3,none⟩)|5=>v=.slice A7 1 c7|6=>v=.pointer (some ⟨w.heap.size+1,2,none⟩)|8=>v=.pointer (some ⟨w.heap.size+1,3,none⟩)|_=>True)
  (fun L U W=>Zv w0 w b (w.heap.size+1) BX p t4 b4 g y (.pointer (some ⟨fb,fo,none⟩)) (.slice A7 1 c7) (if L 7=true then .int .i64 (g.tag:Int)else .int .i64 0) (if L 9=true then .slice A7 1 c7 else .slice none 0 0) W) (by simpa using U5.o.drew) ?_ ?_
 ·repeat (first|exact Aq.nil|(refine Aq.cons ?_ ?_;rotate_left))
  all_goals
   rintro L U W hL hpre HR Hdep K hK
   have hU:=HR.o
   have m3:=hU.xr 3 _ rfl
   simp only[Nat.zero_add]at m3
   have fb0:W.cell? ⟨fb,fo,none⟩=some (.int .i64 (g.tag:Int)):=by obtain⟨a1,a2,a3,_,a5⟩:=hU.p;injection a3 with a3;injection a3 with a3;injection a3 with a3 a4;subst a3 a4;simpa using Ac a5 0 rfl
   first|(simp[Region.binds]at hpre;done)|simp[Region.binds]at hpre|clear hpre
  iterate 7
   ·go_simp
    first|exact hK _ _ _ rfl Ab HR.o rfl|exact kE hK HR.o|exact hK undef _ _ Ab Ab HR.o (by simp[Act.put,hpre])|exact hK _ _ _ Ab Ab HR.o rfl|exact kE hK HR.o
  ·have q2:=hU.v.c2
   have qf:=hU.v.bk.live 2
   have ql:=hU.v.lt
   have hst:=hU.put (.int .i64 (g.tag:Int)) (hU.v.set2 _) hb0 (by omega) (by omega) hww
   go_simp
   exact hK undef _ _ Ab Ab (by simpa using hst) (by simp[Act.put,hpre])
  ·go_simp
   first|exact hK _ _ _ rfl Ab HR.o rfl|exact kE hK HR.o|exact hK undef _ _ Ab Ab HR.o (by simp[Act.put,hpre])|exact hK _ _ _ Ab Ab HR.o rfl|exact kE hK HR.o
  ·have q3:=hU.v.c3
   have qf:=hU.v.bk.live 3
   have ql:=hU.v.lt
   have hst:=hU.put (.slice A7 1 c7) (hU.v.set3 _) hb0 (by omega) (by omega) hww
   go_simp
   exact hK undef _ _ Ab Ab (by simpa using hst) (by simp[Act.put,hpre])
 rintro L U W hL hφ hR
 clear hφ
 have hU:=hR
 simp only[hL 7 (by decide),hL 9 (by decide),if_true]at hU
 have U6:=Aa hU
 have d0:=hU.v.c0
 have d1:=hU.v.c1
 have d2:=hU.v.c2
 have d3:=hU.v.c3
 clear hL hR hU
 go_wp2_with ((with_reducible refine Ad (op:=⟨none,.store 42 _ _,_,_,_,none⟩) rfl 42 _ _ rfl w.heap.size 0 [.int .u8 85,.string ⟨#[]⟩,.int .i64 (g.tag:Int),.slice A7 1 c7] ?_ ?_ ?_ ?_ ?_ ?_);rfl;rfl;(exact U6.o.f.2.1);kernel_rfl;(simp[Value.oneCell']);intro w9 HS9)
 have Z:=Nx.fin (v:=.mk 85 [] g.tag [y]) (sl:=.slice A7 1 c7) U6.o.f hb0 HS9.o (U6.o.k.mono fun c hc _=>by omega)
 have hpv:(Az (.mk 85 [] g.tag [y])).length=(Az (Dg (g,y))).length+2:=by rw[Xw];simp
 have hn3':(Az (Dg (g,y))).length+t2.length<=t1.length+8*N:=hn3
 exact bodyPost_ret (v:=.agg (G6 (.mk 85 [] g.tag [y]) (.slice A7 1 c7)).toArray) (Ay results100 _ _ w.heap.size _ _ rfl Z.2.2 underlying42 rfl (by kernel_rfl)) rfl ⟨.mk 85 [] g.tag [y],_,t4,rfl,Z.1,by rw[HQ4.o];cases b4<;>exact Z.2.1,by rw[HQ4.o];cases b4<;>simp,.mk (by omega) (by simp only[Pb]at hn3';simp[Cu];omega) (by simp) (fun z hz=>by rw[List.mem_singleton]at hz;subst hz;exact HBy.o),by omega,by omega⟩
def Nw(ps:List (Fd × Vl)):Option (List (Fd × Vl) × List UInt8)->Option (List (Fd × Vl) × List UInt8)
 |some (us,z)=>some (ps++us,z)
 |none=>none
structure RI(S:List Ty)(K:Kd->List UInt8->Option (Vl × List UInt8))(fs:List Fd)(t1:List UInt8)(b1:Bool)(ps:List (Fd × Vl))(last:Nat)(tt:List UInt8):Prop where
 eq:b1=false->Dr S K fs 201 0 t1=Nw ps (Dr S K fs (201 - ps.length) last tt)
 len:Cu ((ps.map Dg).map Az)+tt.length<=t1.length
 bd:∀p∈ps,Bd (Dg p)
 lo:ps.length<=last
 hi:last<=200
def RE(S:List Ty)(K:Kd->List UInt8->Option (Vl × List UInt8))(fs:List Fd)(t1:List UInt8)(b1:Bool)(vs:List Vl)(tt:List UInt8)(bb:Bool)(N:Nat):Prop:=
 ∃ps:List (Fd × Vl),(if b1 then none else Dr S K fs 201 0 t1)=(if bb then none else match Am 125 tt with|some z=>some (ps,z)|none=>none)/\(bb=false->vs=ps.map Dg)/\Cu (vs.map Az)+tt.length<=t1.length+8*N+1/\(∀x∈vs,Bd x)/\vs.length<=201
section
variable {S:List Ty} {K:Kd->List UInt8->Option (Vl × List UInt8)} {fs:List Fd} {t1 tt t' t'':List UInt8} {b1:Bool} {ps:List (Fd × Vl)} {last N:Nat} {g:Fd} {x:Vl}
theorem RI.init:RI S K fs t1 b1 [] 0 t1:=⟨fun _=>by cases h:Dr S K fs 201 0 t1<;>simp[Nw,h],by simp[Cu],by simp,Ap _,by omega⟩
theorem RI.bad(h:RI S K fs t1 true ps last tt):RE S K fs t1 true (ps.map Dg) tt true N:=
 ⟨ps,by simp,fun h=>Bool.noConfusion h,by have:=h.len;omega,fun y hy=>by obtain⟨p,hp,rfl⟩:=List.mem_map.1 hy;exact h.bd p hp,by have:=h.lo;have:=h.hi;simp;omega⟩
theorem RI.fuel(h:RI S K fs t1 b1 ps last tt):∃m,201 - ps.length=m+1:=⟨200 - ps.length,by have:=h.lo;have:=h.hi;omega⟩
theorem RI.step(h:RI S K fs t1 false ps last tt)(hK:Cr K fs tt=some ((g,x),t'))(hl:last<g.tag)(hne:Az x≠Re S g)(hlen:tt.length=(Az (Dg (g,x))).length+t'.length)(hc:Am 44 t'=some t'')(hB:Bd (Dg (g,x)))(hg:g.tag<=200):
  RI S K fs t1 false (ps++[(g,x)]) g.tag t'':=by
 obtain⟨m,hm⟩:=h.fuel
 have e:t'=44::t'':=B9.1 hc
 refine⟨fun _=>?_,?_,fun p hp=>?_,by have:=h.lo;simp;omega,hg⟩
 ·rw[h.eq rfl,hm,show 201 - (ps++[(g,x)]).length=m by simp;omega]
  conv=>lhs;unfold Dr
  rw[hK]
  simp only
  rw[if_neg (by intro h;rcases h with h|h;omega;exact hne h),hc]
  simp only
  cases Dr S K fs m g.tag t''<;>simp[Nw]
 ·have:=h.len
  rw[List.map_append,List.map_append,Kr]
  simp[Cv,Cu]at this ⊢
  rw[e]at hlen
  simp at hlen
  omega
 rcases List.mem_append.1 hp with hp|hp
 ·exact h.bd p hp
 rw[List.mem_singleton]at hp;subst hp;exact hB
theorem RI.stop(h:RI S K fs t1 false ps last tt)(hs:∀y,Cr K fs tt=some y->y.1.1.tag<=last\/Az y.1.2=Re S y.1.1)(hl:t'.length<=tt.length):RE S K fs t1 false (ps.map Dg) t' true N:=by
 obtain⟨m,hm⟩:=h.fuel
 refine⟨ps,?_,fun h=>Bool.noConfusion h,by have:=h.len;omega,fun y hy=>by obtain⟨p,hp,rfl⟩:=List.mem_map.1 hy;exact h.bd p hp,by have:=h.lo;have:=h.hi;simp;omega⟩
 rw[if_neg (by decide),h.eq rfl,hm]
 unfold Dr
 cases hk:Cr K fs tt with
 |none=>rfl
 |some y=>
  obtain⟨p,z⟩:=y
  simp only
  rw[if_pos (hs _ hk)];rfl
theorem RI.brk(h:RI S K fs t1 false ps last tt)(hx:∀y,Cr K fs tt=some y->y=((g,x),t'))(hl:last<g.tag)(hne:Az x≠Re S g)(hc:Ax [44] t' (Cr K fs tt).isNone=none)(hB:Bd (Dg (g,x)))
  (hn:(Az (Dg (g,x))).length+t'.length<=tt.length+8*N):RE S K fs t1 false (ps.map Dg++[Dg (g,x)]) t' (Cr K fs tt).isNone N:=by
 obtain⟨m,hm⟩:=h.fuel
 refine⟨ps++[(g,x)],?_,fun _=>by simp,?_,?_,by have:=h.lo;have:=h.hi;simp;omega⟩
 ·rw[if_neg (by decide),h.eq rfl,hm]
  unfold Dr
  cases hk:Cr K fs tt with
  |none=>rfl
  |some y=>
   have:=hx y hk
   subst this
   rw[hk,B6]at hc
   simp only[Option.isNone_some,Bool.false_eq_true,if_false]at hc ⊢
   rw[if_neg (by intro h;rcases h with h|h;omega;exact hne h),hc]
   simp only
   cases Am 125 t'<;>simp[Nw]
 ·have:=h.len
  rw[List.map_append,Kr]
  simp[Cv,Cu]at this ⊢
  omega
 intro y hy
 rcases List.mem_append.1 hy with hy|hy
 ·obtain⟨p,hp,rfl⟩:=List.mem_map.1 hy;exact h.bd p hp
 rw[List.mem_singleton]at hy;subst hy;exact hB
theorem RE.fin{vs:List Vl}{bb:Bool}{t:List UInt8}(h:RE S K fs t1 b1 vs tt bb N)(h1:t1=(Ax [123] t false).getD t)(hb1:b1=(Ax [123] t false).isNone)(h2:Ax [125] t1 b1=none):
  (match Am 123 t with
   |none=>none
   |some r=>match Am 125 r with
    |some q=>some (Vl.mk 82 [] 0 [],q)
    |none=>match Dr S K fs 201 0 r with|some (ps,q)=>some (.mk 82 [] 0 (ps.map Dg),q)|none=>none) =
  if (Ax [125] tt bb).isNone then none else some (.mk 82 [] 0 vs,(Ax [125] tt bb).getD tt):=by
 obtain⟨ps,h3,h4,_⟩:=h
 rw[B6]at h1 hb1 h2 ⊢
 simp only[Bool.false_eq_true,if_false]at h1 hb1
 cases hy:Am 123 t with
 |none=>
  rw[hy]at hb1
  simp only[Option.isNone_none]at hb1
  subst hb1
  simp only[if_true]at h3
  simp only
  cases bb with
  |true=>simp
  |false=>
   simp only[Bool.false_eq_true,if_false]at h3 ⊢
   cases hz:Am 125 tt with
   |none=>simp
   |some z=>rw[hz]at h3;cases h3
 |some r=>
  rw[hy]at h1 hb1
  simp only[Option.isNone_some,Option.getD_some]at h1 hb1
  subst h1 hb1
  simp only[Bool.false_eq_true,if_false]at h2 h3
  simp only
  rw[h2]
  simp only
  rw[h3]
  cases bb with
  |true=>simp
  |false=>
   rw[h4 rfl]
   simp only[Bool.false_eq_true,if_false]
   cases Am 125 tt<;>simp
end
end
end Go.Proofs.YtkigmebejmmikaaGreatDoor
