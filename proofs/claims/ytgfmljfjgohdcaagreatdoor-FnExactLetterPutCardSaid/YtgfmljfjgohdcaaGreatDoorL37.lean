/- Texts joined. Conditions: as each theorem names them. -/
import Derived.Test.YtgfmljfjgohdcaaGreatDoorL30
set_option maxRecDepth 100000
set_option maxHeartbeats 32000000
set_option linter.unusedVariables false
set_option linter.unusedSimpArgs false
namespace Go.Proofs.YtgfmljfjgohdcaaGreatDoor
open Go.RowKit Go.Proofs.Tryz
section
attribute [local go_sem] Qls Qkr Qj4 Qig ByteArray.mk_append_mk
def Pg(w:World)(b:Nat)(p:Value)(R:Nat)(t:List UInt8)(bad:Bool)(W:World):Prop:=Dc w b p t bad W/\W.there R 0 4/\w.heap.size<=R/\R<W.heap.size
theorem Pg.post{w W W':World}{b R:Nat}{p:Value}{t:List UInt8}{bad:Bool}(h:Pg w b p R t bad W)(hb:Below W W W'):Pg w b p R t bad W':=
 ⟨h.1.post hb,An h.2.1 h.2.2.2 hb,h.2.2.1,a8 h.2.2.2 hb.size⟩
theorem Pg.step{w W W':World}{b R:Nat}{p:Value}{t t':List UInt8}{bad bad':Bool}(h:Pg w b p R t bad W)(hb:b<w.heap.size)(hs:Dc W b p t' bad' W'):Pg w b p R t' bad' W':=
 ⟨h.1.trans hs,Gl h.2.1 hs.2 h.2.2.2 (by have:=h.2.2.1;simp;omega),h.2.2.1,a8 h.2.2.2 hs.2.size⟩
theorem Dc.app{w W W':World}{b:Nat}{p:Value}{t:List UInt8}{bad:Bool}{row:Option Nat}(h:Dc w b p t bad W)(hb:b<w.heap.size)(hg:W.grownBy W' row)(hr:∀k,row=some k->w.heap.size<=k):Dc w b p t bad W':=by
 have hn:∀c,c<w.heap.size->some c≠row:=fun c hc e=>by have:=hr c e.symm;omega
 obtain⟨⟨h0,h1,h2,h3,h4⟩,hg0⟩:=h;exact⟨⟨a8 h0 hg.size,h1.grown h0 hg (hn b hb),hg.cell h2 (hn b hb),hg.cell h3 (hn b hb),hg.cell h4 (hn b hb)⟩,⟨hg.os.trans hg0.os,hg.tape.trans hg0.tape,hg.output.trans hg0.output,aa hg0.size hg.size,fun k hk hne=>(hg.block k (a8 hk hg0.size) (hn k hk)).trans (hg0.block k hk hne)⟩⟩
theorem Pg.app{w W W':World}{b R:Nat}{p:Value}{t:List UInt8}{bad:Bool}{row:Option Nat}(h:Pg w b p R t bad W)(hb:b<w.heap.size)(hg:W.grownBy W' row)(hr:∀k,row=some k->R<k):Pg w b p R t bad W':=
 ⟨h.1.app hb hg fun k e=>by have:=hr k e;have:=h.2.2.1;omega,Gl h.2.1 hg h.2.2.2 (fun e=>by have:=hr R e.symm;omega),h.2.2.1,a8 h.2.2.2 hg.size⟩
theorem Pg.fin{w W w9:World}{b R:Nat}{p:Value}{t:List UInt8}{bad:Bool}{v:Vl}{sl:Value}(F:Pg w b p R t bad W)(hb:b<w.heap.size)(HS:w9=W.setCells R 0 (Gv v sl))(hv:E9 (fun c=>R<c) W sl v.kids):
  E9 (fun c=>w.heap.size<=c) w9 sl v.kids/\Dc w b p t bad w9/\w9.rangeAt R 0 (Gv v sl):=by
 subst HS;have:=F.2.2.1;exact⟨(hv.set (B:=R) aF _).mono fun c hc _=>by omega,F.1.set aF aF _,a7 _ _ _ _ F.2.1⟩
def Qkj(w0 w:World)(b:Nat)(p:Value)(t:List UInt8)(N:Nat)(fs:List Fd)(r:Option ((Fd × Vl) × List UInt8))(e:Ending)(w':World):Prop:=
 ∃(v:Vl) (sl fp:Value) (t':List UInt8),e=.returned (.tuple #[Ko v sl,fp])/\E9 (fun c=>w.heap.size<=c) w' sl v.kids/\Dc w b p t' r.isNone w'/\Bd v/\t'.length<=t.length/\(Bi v).length+t'.length<=t.length+8*N /\
  ((fp=.pointer none/\r=none)\/∃g x,G8 w0.heap.size w' fp (some g)/\v=Ee (g,x)/\Bl fs g.tag=some g/\Bd x/\∀y,r=some y->y=((g,x),t'))
theorem G8.via{B:Nat}{w0 W W':World}{v:Value}{o:Option Fd}(h:G8 B W v o)(h1:Below B w0 W)(h2:Below B w0 W'):G8 B W' v o:=by
 cases o with
 |none=>exact h
 |some f=>
  obtain⟨b,o,e,hb,hr⟩:=h;exact⟨b,o,e,hb,fun j u hu=>(h2.cell (p:=⟨b,o+j,none⟩) hb).trans ((h1.cell (p:=⟨b,o+j,none⟩) hb).symm.trans (hr j u hu))⟩
theorem Qap(fs:List Fd)(t:List UInt8):Fo fs t=if Ga 200 t then(Bl fs (Gs t)).map (fun f=>(f,t.dropWhile Az))else none:=by
 unfold Fo;rw[Qbo];unfold Ga Gs;cases h:Cg (t.takeWhile Az)with
 |none=>simp
 |some n=>
  have:=(Br.1 h).1;simp only[decide_eq_true_eq,this,if_true,Option.getD_some];by_cases h2:n<=200
  ·rw[if_pos h2,if_pos h2];cases Bl fs n<;>rfl
  rw[if_neg h2,if_neg h2]
theorem Qfr(K:Kd->List UInt8->Option (Vl × List UInt8))(fs:List Fd)(t:List UInt8):Cu K fs t=match Bl fs (Gs t)with
  |none=>none
  |some f=>match Aw [61] (t.dropWhile Az) (!Ga 200 t)with
   |none=>none
   |some q=>match K f.kind q with|some (v,z)=>some ((f,v),z)|none=>none:=by
 unfold Cu;rw[Qap];simp only[B6];cases Ga 200 t<;>cases Bl fs (Gs t)<;>simp
 rfl
theorem Qiy(t:List UInt8)(h:Ga 200 t=true):(Au (Gs t)).length+(t.dropWhile Az).length=t.length:=by
 unfold Ga at h;unfold Gs;cases hd:Cg (t.takeWhile Az)with
 |none=>rw[hd]at h;cases h
 |some n=>
  have e:=(Br.1 hd).2;simp only[Option.getD_some];rw[<-e,<-af,List.takeWhile_append_dropWhile]
theorem Qbm(w0:World)(b N:Nat)(p:Value)(S:List Ty)(x:PT)(hx:Td w0 x)(t:List UInt8)(w:World)(hw:Below w0 w0 w)(hb:w0.heap.size<=b)(bad:Bool)(h:Fv w b p t bad)(hl:t.length<=900)(hN:bad=false->t.length<=N)(hN2:N<=2000)
  (htg:∀f∈x.ty.fields,f.tag<=200) (H:∀f∈x.ty.fields,IvC w0 b p S N f.kind) (q:Option ((Fd × Vl) × List UInt8)) (hq:q=if bad then none else Cu (Al S 1000 N) x.ty.fields t):
  Calls prog 213 #[b,x.blk] w (Qkj w0 w b p t N x.ty.fields q):=by
 have HQ:=Aa (hq.trans (by rw[Qfr]));have Hnl:=Aa (Qiy t);have HS:=Aa h;have HW:=Aa hw;have hb0:=h.1;have hbn:¬(b=w.heap.size):=aF;have hnn:=Qan t;have hdr:=Zo Az t;have Hn:=Aa (fun W (h:Fv W b p t bad)=>Nz b 200 p t bad W h aF aI);have Hf:=Aa (fun W (hW:Below w0 w0 W)=>P9 w0 x hx (Gs t) W hW aF);have hxb:x.blk<w0.heap.size:=hx.1;clear h hw hq;obtain⟨b1,hb1⟩:∃b1,b1=(bad || !Ga 200 t):=⟨_,rfl⟩
 have Hb1:=Aa hb1;rw[<-hb1]at Hn;generalize t.dropWhile Az=t1 at *;have hm:=Ei 61 t1 b1;have Hwt:=Aa (fun W (h:Fv W b p t1 b1)=>Da b p t1 [61] b1 W h aF);have Hlt0:=Aa (fun r (h:Aw [61] t1 b1=some r)=>Jp h);clear hb1;cases hfo:Bl x.ty.fields (Gs t)with
 |none=>
  rw[hfo]at Hf HQ;have hq0:=@Aa (q=none) (by have:=HQ.o;cases bad<;>simpa using this);generalize Gs t=n at *;generalize (Aw [61] t1 b1).getD t1=t2 at *;generalize (Aw [61] t1 b1).isNone=b2 at *;clear hfo HQ Hnl;go_enter func213,ntmps213;go_wp2_with fail;have F0:=@Aa (Pg w b p w.heap.size t bad (w.alloc (.cells #[.int .u8 0,a6,.int .i64 0,.slice none 0 0] 75))) ⟨⟨HS.o.grow ((Ar _ _).alloc (Am _) _),Ct ((Ar _ _).alloc (Am _) _) _⟩,B9 w [.int .u8 0,a6,.int .i64 0,.slice none 0 0] _,Am _,by simp⟩;refine(Hn.o _ F0.o.1.1).mono ?_;rintro e w2 ⟨rfl,hs2⟩;have F2:=Aa (F0.o.step hb0 hs2);clear hs2;go_wp2_with fail;refine(Hf.o _ (F2.o.1.env HW.o hb)).mono ?_;rintro e w3 ⟨fp,rfl,hfp,rfl⟩;have hfp':fp=.pointer none:=hfp;subst hfp';go_wp2_with fail;refine(Hwt.o _ F2.o.1.1).mono ?_;rintro e w4 ⟨rfl,hs4⟩;have F4:=Aa (F2.o.step hb0 hs4);clear hs4;have sb:=F4.o.1.1.2.1.live 2;have s0:=F4.o.1.1.1;have s2:=F4.o.1.1.2.2.2.2;have F5:=Aa (F4.o.step hb0 ⟨F4.o.1.1.setBad true,A0 _ b 2 (.bool true)⟩);go_wp2_with ((with_reducible refine Ad (op:=⟨none,.store 75 _ _,_,_,_,none⟩) rfl 75 _ _ rfl w 0 [.int .u8 0,a6,.int .i64 0,.slice none 0 0] ?_ ?_ ?_ ?_ ?_ ?_);rfl;rfl;(exact F5.o.2.1);kernel_rfl;(simp[Value.oneCell']);intro w9 HS9)
  have Z:=Pg.fin (v:=Fk) (sl:=.slice none 0 0) F5.o hb0 HS9.o (E9.nil _ _);refine aD (v:=.tuple #[.agg (Gv Fk (.slice none 0 0)).toArray,.pointer none]) (Aj results213 _ _ w.heap.size _ _ _ rfl rfl Z.2.2 underlying75 rfl aJ) rfl ?_;exact⟨Fk,.slice none 0 0,.pointer none,t2,rfl,Z.1,by rw[hq0.o];exact Z.2.1,Es aI aI,by omega,by simp[Fk,Bi,D7,H9];omega,.inl ⟨rfl,hq0.o⟩⟩
 |some g=>
  obtain⟨hgt,hgm⟩:=Ci hfo;have hg2:=htg g hgm;have Hfg:=Aa (show Bl x.ty.fields g.tag=some g by rw[hgt];exact hfo);rw[hfo]at Hf HQ;simp only at HQ;have HH:=Aa (H g hgm);cases hc:Aw [61] t1 b1 with
  |none=>
   have hq0:=Aa (show q=none from by
    rw[HQ.o];cases bad with
    |true=>rfl
    |false=>rw[if_neg aI];rw[show Aw [61] t1 (!Ga 200 t)=none by have:=Hb1.o;rw[Bool.false_or]at this;rw[<-this];exact hc])
   rw[hc]at Hwt;simp only[Option.isNone_none,Option.getD_none]at Hwt;generalize Gs t=n at *;clear hfo HQ Hnl hc hm;subst hgt;obtain⟨b2,hb2⟩:∃b2,b2=true:=⟨_,rfl⟩
   rw[<-hb2]at Hwt;go_enter func213,ntmps213;go_wp2_with fail;have F0:=@Aa (Pg w b p w.heap.size t bad (w.alloc (.cells #[.int .u8 0,a6,.int .i64 0,.slice none 0 0] 75))) ⟨⟨HS.o.grow ((Ar _ _).alloc (Am _) _),Ct ((Ar _ _).alloc (Am _) _) _⟩,B9 w [.int .u8 0,a6,.int .i64 0,.slice none 0 0] _,Am _,by simp⟩;refine(Hn.o _ F0.o.1.1).mono ?_;rintro e w2 ⟨rfl,hs2⟩;have F2:=Aa (F0.o.step hb0 hs2);clear hs2;go_wp2_with fail;refine(Hf.o _ (F2.o.1.env HW.o hb)).mono ?_;rintro e w3 ⟨fp,rfl,hfp,rfl⟩;obtain⟨fb,fo,rfl,hfb,hfr⟩:=hfp;go_wp2_with fail;refine(Hwt.o _ F2.o.1.1).mono ?_;rintro e w4 ⟨rfl,hs4⟩;have F4:=Aa (F2.o.step hb0 hs4);clear hs4;have sb:=F4.o.1.1.2.1.live 2;have s0:=F4.o.1.1.1;have s2:=F4.o.1.1.2.2.2.2;have F5:=Aa (F4.o.step hb0 ⟨F4.o.1.1.setBad true,A0 _ b 2 (.bool true)⟩);subst hb2;go_wp2_with ((with_reducible refine Ad (op:=⟨none,.store 75 _ _,_,_,_,none⟩) rfl 75 _ _ rfl w 0 [.int .u8 0,a6,.int .i64 0,.slice none 0 0] ?_ ?_ ?_ ?_ ?_ ?_);rfl;rfl;(exact F5.o.2.1);kernel_rfl;(simp[Value.oneCell']);intro w9 HS9)
   have Z:=Pg.fin (v:=Fk) (sl:=.slice none 0 0) F5.o hb0 HS9.o (E9.nil _ _);refine aD (v:=.tuple #[.agg (Gv Fk (.slice none 0 0)).toArray,.pointer none]) (Aj results213 _ _ w.heap.size _ _ _ rfl rfl Z.2.2 underlying75 rfl aJ) rfl ?_;exact⟨Fk,.slice none 0 0,.pointer none,t1,rfl,Z.1,by rw[hq0.o];exact Z.2.1,Es aI aI,by omega,by simp[Fk,Bi,D7,H9];omega,.inl ⟨rfl,hq0.o⟩⟩
  |some t2=>
   have hlt:=Hlt0.o t2 hc;have hbb:bad=false/\b1=false/\Ga 200 t=true:=by
    have h1:b1=false:=by
     cases b1 with
     |false=>rfl
     |true=>rw[B6]at hc;simp at hc
    have h2:=Hb1.o;rw[h1]at h2;cases bad<;>cases hnb:Ga 200 t<;>simp[hnb]at h2 ⊢
    exact h1
   obtain⟨rfl,rfl,hnb⟩:=hbb;have hnl:=Hnl.o hnb;rw[hgt.symm]at hnl
   have hq0:=Aa (show q=(match Al S 1000 N g.kind t2 with|some (v,z)=>some ((g,v),z)|none=>none)from by
    rw[HQ.o,if_neg aI,hnb];show (match Aw [61] t1 false with|none=>none|some q=>match Al S 1000 N g.kind q with|some (v,z)=>some ((g,v),z)|none=>none)=_;rw[hc])
   rw[hc]at Hwt;simp only[Option.isNone_some,Option.getD_some]at Hwt;have h2N:t2.length<N:=by have:=hN rfl;omega
   generalize Gs t=n at *;clear hfo HQ Hnl hc hm Hb1 hnb Hlt0;subst hgt;go_enter func213,ntmps213;go_wp2_with fail;have F0:=@Aa (Pg w b p w.heap.size t false (w.alloc (.cells #[.int .u8 0,a6,.int .i64 0,.slice none 0 0] 75))) ⟨⟨HS.o.grow ((Ar _ _).alloc (Am _) _),Ct ((Ar _ _).alloc (Am _) _) _⟩,B9 w [.int .u8 0,a6,.int .i64 0,.slice none 0 0] _,Am _,by simp⟩;refine(Hn.o _ F0.o.1.1).mono ?_;rintro e w2 ⟨rfl,hs2⟩;have F2:=Aa (F0.o.step hb0 hs2);clear hs2;go_wp2_with fail;refine(Hf.o _ (F2.o.1.env HW.o hb)).mono ?_;rintro e w3 ⟨fp,rfl,hfp,rfl⟩;obtain⟨fb,fo,rfl,hfb,hfr⟩:=hfp;go_wp2_with fail;refine(Hwt.o _ F2.o.1.1).mono ?_;rintro e w4 ⟨rfl,hs4⟩;have F4:=Aa (F2.o.step hb0 hs4);clear hs4;have HFR:=@Aa (G8 w0.heap.size w4 (.pointer (some ⟨fb,fo,none⟩)) (some g)) (G8.via ⟨fb,fo,rfl,hfb,hfr⟩ (F2.o.1.env HW.o hb) (F4.o.1.env HW.o hb));have G4:=@Aa (w4.rangeAt fb fo (Sc g)) (by obtain⟨a1,a2,a3,_,a5⟩:=HFR.o;injection a3 with a3;injection a3 with a3;injection a3 with a3 a4;subst a3 a4;exact a5);have s2:=F4.o.1.1.2.2.2.2;have g2:=Ab G4.o 2 rfl;have g3:=Ab G4.o 3 rfl;have g4:=Ab G4.o 4 rfl;have g3':w4.cell? ⟨fb,fo+2+1,none⟩=g.kind.base:=g3;have g4':w4.cell? ⟨fb,fo+2+1+1,none⟩=g.kind.name:=g4;have g4'':w4.cell? ⟨fb,fo+2+2,none⟩=g.kind.name:=g4;clear hfr;have HV:=Aa (fun W (h1:Below w0 w0 W) (h2:Fv W b p t2 false)=>HH.o t2 false W h1 h2 aF (fun _=>h2N));unfold Gy at HV;simp only[ak,if_false]at HV;go_wp2_with fail;refine(HV.o _ (F4.o.1.env HW.o hb) F4.o.1.1).mono ?_;rintro e w5 ⟨v,sl,t',rfl,hk5,hs5,hx5,hB5,hl5,hn5⟩;obtain⟨A7,c7,rfl⟩:=hk5.form;have F5:=Aa (F4.o.step hb0 hs5);have Hk5:=Aa hk5;have Hx5:=Aa hx5;have HB5:=Aa hB5;have hz4:=F4.o.2.2.2;clear hs5 hk5 hx5 hB5 g2 g3 g4 g3' g4' g4'' s2;unfold Ko;go_wp2_with fail;obtain⟨W6,hW6⟩:∃W6,W6=w5.alloc (.cells #[.int .u8 (v.what.toNat:Int),v.text,(v.tag:Int),.slice A7 v.kids.length c7] 75):=⟨_,rfl⟩
   rw[<-hW6];have hb6:Below w5 w5 W6:=by rw[hW6];exact(Ar _ _).alloc (Am _) _
   have F6:=Aa (F5.o.post hb6);have HP6:=Aa (HFR.o.via (F4.o.1.env HW.o hb) (F6.o.1.env HW.o hb));have X6:=@Aa (W6.rangeAt w5 0 [.int .u8 (v.what.toNat:Int),v.text,(v.tag:Int),.slice A7 v.kids.length c7]) (by rw[hW6];exact Bo w5 [.int .u8 (v.what.toNat:Int),v.text,(v.tag:Int),.slice A7 v.kids.length c7] _);have Hk6:=Aa (Hk5.o.after hb6);have hz6:w5.heap.size<W6.heap.size:=by rw[hW6];simp
   have HW6:=Aa (F6.o.1.env HW.o hb);have hz5:=F5.o.2.2.2;generalize w5.heap.size=B7 at *;clear hW6 hb6;have D0:=@Aa (W6.cell? ⟨fb,fo,none⟩=(g.tag:Int)) (by obtain⟨a1,a2,a3,_,a5⟩:=HP6.o;injection a3 with a3;injection a3 with a3;injection a3 with a3 a4;subst a3 a4;simpa using Ab a5 0 rfl);refine Bb [32,33,34,35,36,37,38,39,999,5] aJ aJ aJ (fun u=>by dsimp only[Bp,Bh,List.set,aj,Nat.reduceAdd])
    (fun ix u W=>match ix with|0=>u=.pointer (some ⟨fb,fo,none⟩)|1=>u=.pointer (some ⟨fb,fo,none⟩)|2=>u=.pointer (some ⟨fb,fo,none⟩)|3=>u=(g.tag:Int)|4=>u=.agg #[.int .u8 (v.what.toNat:Int),v.text,(v.tag:Int),.slice A7 v.kids.length c7]|5=>∃c,u=.slice (some ⟨c,0,none⟩) 1 1|6=>∃c,u=.agg #[.int .u8 61,a6,(g.tag:Int),.slice (some ⟨c,0,none⟩) 1 1]|7=>u=.pointer (some ⟨fb,fo,none⟩)|9=>u=.pointer (some ⟨fb,fo,none⟩)|_=>True)
    (fun L U W=>(L 8=false->Below W6 W6 W)/\(L 5=true->L 8=false->∃W7,W=W7.alloc (.cells (Sl (v,.slice A7 v.kids.length c7)).toArray 75)/\U 5=.slice (some ⟨W7.heap.size,0,none⟩) 1 1/\Below W6 W6 W7)/\(L 6=true->U 6=.agg #[.int .u8 61,a6,(g.tag:Int),U 5]) /\
  (L 8=true->∃W7,W=(W7.alloc (.cells (Sl (v,.slice A7 v.kids.length c7)).toArray 75)).setCells w 0 [.int .u8 61,a6,(g.tag:Int),.slice (some ⟨W7.heap.size,0,none⟩) 1 1]/\Below W6 W6 W7)) (fun _ _=>True) (fun _ _ _ _ _ h=>h) (⟨fun _=>(Ar _ _).drew,fun h=>Bool.noConfusion h,fun h=>Bool.noConfusion h,fun h=>Bool.noConfusion h⟩) ?_ ?_
   ·repeat (first|exact Ap.nil|(refine Ap.cons ?_ ?_;rotate_left))
    all_goals
     rintro L U W hL hpre hR hun hdep K hK;have HR:=Aa hR;obtain⟨R1,R2,R3,R4⟩:=HR.o;have Hdep:=Aa hdep;clear hun hdep hR;first|(simp[Region.binds]at hpre;done)|simp[Region.binds]at hpre|clear hpre
    iterate 3
     ·exact fD
    ·have h6:L 6=false:=Dn Hdep.o 6 3 rfl hL;have h8:L 8=false:=Dn Hdep.o 8 6 rfl h6;have m0:=((R1 h8).cell (p:=⟨fb,fo,none⟩) (by have:=HW6.o.size;show fb<_;omega)).trans D0.o;exact iA
    ·have h5:L 5=false:=Dn Hdep.o 5 4 rfl hL;have h6:L 6=false:=Dn Hdep.o 6 5 rfl h5;have h8:L 8=false:=Dn Hdep.o 8 6 rfl h6;have m0:=((R1 h8).cell (p:=⟨B7,0,none⟩) hz6).trans (X6.o 0 _ rfl);have m1:=((R1 h8).cell (p:=⟨B7,1,none⟩) hz6).trans (X6.o 1 _ rfl);have m2:=((R1 h8).cell (p:=⟨B7,2,none⟩) hz6).trans (X6.o 2 _ rfl);have m3:=((R1 h8).cell (p:=⟨B7,3,none⟩) hz6).trans (X6.o 3 _ rfl);exact iA
    ·have h6:L 6=false:=Dn Hdep.o 6 5 rfl hL;have h8:L 8=false:=Dn Hdep.o 8 6 rfl h6;have hba:Below W W (W.alloc (.cells (Sl (v,.slice A7 v.kids.length c7)).toArray 75)):=(Ar _ _).alloc (Am _) _;have u4:=hpre.2;go_simp;exact hK (.slice (W,0) 1 1) _ _ ⟨W.heap.size,rfl⟩ Ac ⟨fun _=>(R1 h8).trans (hba.mono (R1 h8).size),fun _ _=>⟨W,rfl,rfl,R1 h8⟩,fun h=>absurd (h6.symm.trans aV) aI,fun h=>absurd (h8.symm.trans aV) aI⟩ aG
    ·obtain⟨c,u5⟩:=hpre.2.2;have u3:=hpre.1.2;go_simp;exact hK (.agg #[.int .u8 61,a6,(g.tag:Int),U 5]) _ _ ⟨c,by rw[u5]⟩ Ac ⟨R1,R2,fun _=>rfl,fun h=>R4 aV⟩ (by simp[Act.put,u3,u5])
    ·exact fD
    ·obtain⟨⟨l6,_⟩,_⟩:=hpre;have u6:=R3 l6;have l5:L 5=true:=by
      cases h5:L 5 with
      |true=>rfl
      |false=>exact absurd (l6.symm.trans (Dn Hdep.o 6 5 rfl h5)) aI
     obtain⟨W7,rfl,u5,hb7⟩:=R2 l5 hL;rw[u5]at u6;rw[if_pos d9];refine wp_store_mid 75 _ _ rfl w 0 ([.int .u8 61,a6,(g.tag:Int),.slice (some ⟨W7.heap.size,0,none⟩) 1 1]:List Value).toArray rfl u6 ((F6.o.post hb7).post ((Ar _ _).alloc (Am _) _)).2.1 aJ bJ ?_;exact hK undef _ _ Ac Ac ⟨fun h=>by simp at h,fun _ h=>by simp at h,fun _=>by show U 6=.agg #[.int .u8 61,a6,(g.tag:Int),U 5];rw[u5];exact u6,fun _=>⟨W7,rfl,hb7⟩⟩ rfl
    ·clear R1 R2 R3 R4;go_simp;exact hK (.pointer (some ⟨fb,fo,none⟩)) _ _ rfl Ac HR.o aG
   rintro L U W hL hφ hR;have hφ9:=hφ 9 aI;clear hφ;have e9:U 9=.pointer (some ⟨fb,fo,none⟩):=hφ9;obtain⟨_,_,_,h4⟩:=hR;obtain⟨W7,rfl,hb7⟩:=h4 (hL 8 aI);clear hL h4;simp only[e9];clear hφ9;go_wp2_with fail;have F7:=Aa (F6.o.post hb7);have Hk7:=Aa (Hk6.o.after hb7);have hz7:=F7.o.2.2.2;have Z:=Pg.fin (v:=Ee (g,v)) (sl:=.slice (some ⟨W7.heap.size,0,none⟩) 1 1) (F7.o.post ((Ar _ _).alloc (Am _) (.cells (Sl (v,.slice A7 v.kids.length c7)).toArray 75))) hb0 rfl (Hk7.o.one (T:=75) (fun c hc _=>by omega) aF);have HPz:=HP6.o.via (F6.o.1.env HW.o hb) (Z.2.1.env HW.o hb);refine aD (v:=.tuple #[.agg (Gv (Ee (g,v)) (.slice (some ⟨W7.heap.size,0,none⟩) 1 1)).toArray,.pointer (some ⟨fb,fo,none⟩)]) (Aj results213 _ _ w.heap.size _ _ _ rfl rfl Z.2.2 underlying75 rfl aJ) rfl ?_;have hx9:=Hx5.o;refine⟨Ee (g,v),_,_,t',rfl,Z.1,?_,.mk (show g.tag<=1000000000 by omega) (by simp[Ef];omega) aH (fun y hy=>by rw[an]at hy;subst hy;exact HB5.o),by omega,by rw[Pq];simp only;omega,.inr ⟨g,v,HPz,rfl,Hfg.o,HB5.o,?_⟩⟩
   ·have e:q.isNone=(Al S 1000 N g.kind t2).isNone:=by rw[hq0.o];cases Al S 1000 N g.kind t2<;>rfl
    rw[e];exact Z.2.1
   intro y hy;rw[hq0.o]at hy;cases hr:Al S 1000 N g.kind t2 with
   |none=>rw[hr]at hy;cases hy
   |some z=>
    obtain⟨z1,z2⟩:=z;rw[hr]at hy;simp only[ah]at hy;obtain⟨e1,e2⟩:=hx9 _ hr;simp only at e1 e2;rw[<-hy,e1,e2]
def N6(ps:List (Fd × Vl)):Option (List (Fd × Vl) × List UInt8)->Option (List (Fd × Vl) × List UInt8)
 |some (us,z)=>some (ps++us,z)
 |none=>none
structure RI(S:List Ty)(K:Kd->List UInt8->Option (Vl × List UInt8))(fs:List Fd)(t1:List UInt8)(b1:Bool)(ps:List (Fd × Vl))(last:Nat)(tt:List UInt8):Prop where
 eq:b1=false->Dz S K fs 201 0 t1=N6 ps (Dz S K fs (201 - ps.length) last tt)
 len:Ef ((ps.map Ee).map Bi)+tt.length<=t1.length
 bd:∀p∈ps,Bd (Ee p)
 lo:ps.length<=last
 hi:last<=200
def RE(S:List Ty)(K:Kd->List UInt8->Option (Vl × List UInt8))(fs:List Fd)(t1:List UInt8)(b1:Bool)(vs:List Vl)(tt:List UInt8)(bb:Bool)(N:Nat):Prop:=
 ∃ps:List (Fd × Vl),(if b1 then none else Dz S K fs 201 0 t1)=(if bb then none else match Aq 125 tt with|some z=>some (ps,z)|none=>none)/\(bb=false->vs=ps.map Ee)/\Ef (vs.map Bi)+tt.length<=t1.length+8*N+1/\(∀x∈vs,Bd x)/\vs.length<=201
section
variable {S:List Ty} {K:Kd->List UInt8->Option (Vl × List UInt8)} {fs:List Fd} {t1 tt t' t'':List UInt8} {b1:Bool} {ps:List (Fd × Vl)} {last N:Nat} {g:Fd} {x:Vl}
theorem RI.init:RI S K fs t1 b1 [] 0 t1:=⟨fun _=>by cases h:Dz S K fs 201 0 t1<;>simp[N6,h],by simp[Ef],by simp,Am _,by omega⟩
theorem RI.bad(h:RI S K fs t1 true ps last tt):RE S K fs t1 true (ps.map Ee) tt true N:=
 ⟨ps,by simp,fun h=>Bool.noConfusion h,by have:=h.len;omega,fun y hy=>by obtain⟨p,hp,rfl⟩:=av.1 hy;exact h.bd p hp,by have:=h.lo;have:=h.hi;simp;omega⟩
theorem RI.fuel(h:RI S K fs t1 b1 ps last tt):∃m,201 - ps.length=m+1:=⟨200 - ps.length,by have:=h.lo;have:=h.hi;omega⟩
theorem RI.step(h:RI S K fs t1 false ps last tt)(hK:Cu K fs tt=some ((g,x),t'))(hl:last<g.tag)(hne:Bi x≠M6 S g)(hlen:tt.length=(Bi (Ee (g,x))).length+t'.length)(hc:Aq 44 t'=some t'')(hB:Bd (Ee (g,x)))(hg:g.tag<=200):
  RI S K fs t1 false (ps++[(g,x)]) g.tag t'':=by
 obtain⟨m,hm⟩:=h.fuel;have e:t'=44::t'':=Ce.1 hc;refine⟨fun _=>?_,?_,fun p hp=>?_,by have:=h.lo;simp;omega,hg⟩
 ·rw[h.eq rfl,hm,show 201 - (ps++[(g,x)]).length=m by simp;omega];conv=>lhs;unfold Dz
  rw[hK];simp only;rw[if_neg eG,hc];simp only;cases Dz S K fs m g.tag t''<;>simp[N6]
 ·have:=h.len;rw[ax,ax,Ky];simp[Fw,Ef]at this ⊢;rw[e]at hlen;simp at hlen;omega
 rcases ad.1 hp with hp|hp
 ·exact h.bd p hp
 rw[an]at hp;subst hp;exact hB
theorem RI.stop(h:RI S K fs t1 false ps last tt)(hs:∀y,Cu K fs tt=some y->y.1.1.tag<=last\/Bi y.1.2=M6 S y.1.1)(hl:t'.length<=tt.length):RE S K fs t1 false (ps.map Ee) t' true N:=by
 obtain⟨m,hm⟩:=h.fuel;refine⟨ps,?_,fun h=>Bool.noConfusion h,by have:=h.len;omega,fun y hy=>by obtain⟨p,hp,rfl⟩:=av.1 hy;exact h.bd p hp,by have:=h.lo;have:=h.hi;simp;omega⟩;rw[if_neg aI,h.eq rfl,hm];unfold Dz;cases hk:Cu K fs tt with
 |none=>rfl
 |some y=>
  obtain⟨p,z⟩:=y;simp only;rw[if_pos (hs _ hk)];rfl
theorem RI.brk(h:RI S K fs t1 false ps last tt)(hx:∀y,Cu K fs tt=some y->y=((g,x),t'))(hl:last<g.tag)(hne:Bi x≠M6 S g)(hc:Aw [44] t' (Cu K fs tt).isNone=none)(hB:Bd (Ee (g,x)))
  (hn:(Bi (Ee (g,x))).length+t'.length<=tt.length+8*N):RE S K fs t1 false (ps.map Ee++[Ee (g,x)]) t' (Cu K fs tt).isNone N:=by
 obtain⟨m,hm⟩:=h.fuel;refine⟨ps++[(g,x)],?_,fun _=>by simp,?_,?_,by have:=h.lo;have:=h.hi;simp;omega⟩
 ·rw[if_neg aI,h.eq rfl,hm];unfold Dz;cases hk:Cu K fs tt with
  |none=>rfl
  |some y=>
   have:=hx y hk;subst this;rw[hk,B6]at hc;simp only[Option.isNone_some,ak,if_false]at hc ⊢;rw[if_neg eG,hc];simp only;cases Aq 125 t'<;>simp[N6]
 ·have:=h.len;rw[ax,Ky];simp[Fw,Ef]at this ⊢;omega
 intro y hy;rcases ad.1 hy with hy|hy
 ·obtain⟨p,hp,rfl⟩:=av.1 hy;exact h.bd p hp
 rw[an]at hy;subst hy;exact hB
theorem RE.fin{vs:List Vl}{bb:Bool}{t:List UInt8}(h:RE S K fs t1 b1 vs tt bb N)(h1:t1=(Aw [123] t false).getD t)(hb1:b1=(Aw [123] t false).isNone)(h2:Aw [125] t1 b1=none):
  (match Aq 123 t with
   |none=>none
   |some r=>match Aq 125 r with
    |some q=>some (Vl.mk 82 [] 0 [],q)
    |none=>match Dz S K fs 201 0 r with|some (ps,q)=>some (.mk 82 [] 0 (ps.map Ee),q)|none=>none) =
  if (Aw [125] tt bb).isNone then none else some (.mk 82 [] 0 vs,(Aw [125] tt bb).getD tt):=by
 obtain⟨ps,h3,h4,_⟩:=h;rw[B6]at h1 hb1 h2 ⊢;simp only[ak,if_false]at h1 hb1;cases hy:Aq 123 t with
 |none=>
  rw[hy]at hb1;simp only[Option.isNone_none]at hb1;subst hb1;simp only[if_true]at h3;simp only;cases bb with
  |true=>simp
  |false=>
   simp only[ak,if_false]at h3 ⊢;cases hz:Aq 125 tt with
   |none=>simp
   |some z=>rw[hz]at h3;cases h3
 |some r=>
  rw[hy]at h1 hb1;simp only[Option.isNone_some,Option.getD_some]at h1 hb1;subst h1 hb1;simp only[ak,if_false]at h2 h3;simp only;rw[h2];simp only;rw[h3];cases bb with
  |true=>simp
  |false=>
   rw[h4 rfl];simp only[ak,if_false];cases Aq 125 tt<;>simp
end
def Rd(tt:List UInt8)(N:Nat)(r:Option (Vl × List UInt8))(v:Vl)(t':List UInt8):Prop:=
 (∀x,r=some x->v=x.1/\t'=x.2)/\Bd v/\t'.length<=tt.length/\(Bi v).length+t'.length<=tt.length+8*N
structure Qlv(w:World)(b B:Nat)(p:Value)(k:Kd)(h0 h1 h2 rv:Value)(xs:List (Vl × Value))(tt:List UInt8)(bb:Bool)(N:Nat)(r:Option (Vl × List UInt8))(c s a d:Bool)(uc us ua:Value)(W:World):Prop where
 r1:∃t2 bad2,J7 w b p k t2 bad2 W/\(c=false->t2=tt/\bad2=bb)
 r2:a=false->Vc (B+1) B W h0 h1 h2 rv rv xs
 r3:c=true->∃v sl t',uc=Ko v sl/\Rd tt N r v t'/\J7 w b p k t' r.isNone W/\(a=false->E9 (fun c=>B+1<=c/\rv.ownBlock≠some c) W sl v.kids) /\
  (s=true->a=false->∃W7,W=W7.alloc (.cells (Sl (v,sl)).toArray 75)/\us=.slice (some ⟨W7.heap.size,0,none⟩) 1 1/\Vc (B+1) B W7 h0 h1 h2 rv rv xs/\E9 (fun c=>B+1<=c/\rv.ownBlock≠some c) W7 sl v.kids/\J7 w b p k t' r.isNone W7) /\
  (a=true->d=false->∃A n c,ua=.slice A n c/\Vc (B+1) B W h0 h1 h2 rv ua (xs++[(v,sl)])) /\
  (d=true->∃A n c,ua=.slice A n c/\Vc (B+1) B W h0 h1 h2 ua ua (xs++[(v,sl)]))
theorem Qfl(w0:World)(b N:Nat)(p:Value)(S:List Ty)(t:List UInt8)(k:Kd)(w:World)(hw:Below w0 w0 w)(hb:w0.heap.size<=b)(h:Fv w b p t false)(hl:t.length<=900)(hN:t.length<=N)(hN2:N<=2000)
  (H:IvC w0 b p S N k) (HG:∀s v r,Al S 1000 N k s=some (v,r)->s=Bi v++r) (q:Option (Vl × List UInt8)) (hq:q=S6 (Al S 1000 N k) 1000 t):
  Calls prog 155 #[b,Gy k] w (Kb w b p t (N+1) q):=by
 have HQ:=Aa hq;have HH:=Aa H;have HG:=Aa HG;have HS:=Aa h;have HW:=Aa hw;have hb0:=h.1;have hbn:¬(b=w.heap.size):=aF;have hbn2:¬(b=w.heap.size+1):=aF;have hbn3:¬(b=w.heap.size+2):=aF;have hm:=Ei 91 t false;have Hwt:=Aa (fun W (h:Fv W b p t false)=>Da b p t [91] false W h aF);have Hlt0:=Aa (fun r (h:Aw [91] t false=some r)=>Jp h);obtain⟨t1,ht1⟩:∃t1,t1=(Aw [91] t false).getD t:=⟨_,rfl⟩
 obtain⟨b1,hb1⟩:∃b1,b1=(Aw [91] t false).isNone:=⟨_,rfl⟩
 have Ht1:=Aa ht1;have Hb1:=Aa hb1
 have HL1:=Aa (show b1=false->t1.length<N from by
  intro h;rw[hb1]at h;cases hr:Aw [91] t false with
  |none=>rw[hr]at h;cases h
  |some r=>have:=Hlt0.o r hr;rw[ht1,hr];simp;omega)
 rw[<-ht1]at hm;rw[<-ht1,<-hb1]at Hwt;have Htk:=Aa (fun W (h:Fv W b p t1 b1)=>Jc b p t1 [93] b1 W h aF);have HK:=Aa (fun s=>(rfl:Al S 1000 N k s=Al S 1000 N k s));clear h hw H hq ht1 hb1 HK;have HF0:=Aa (J7.init (k:=k) HS.o (T:=67) (U:=75));unfold Gy;go_enter func155,ntmps155;go_wp2_with fail;obtain⟨W1,hW1⟩:∃W1,W1=((w.alloc (.cells #[k.signs,k.base,k.name] 67)).alloc (.cells #[.int .u8 0,a6,.int .i64 0,.slice none 0 0] 75)).alloc (.cells #[.int .u8 91,a6,.int .i64 0,.slice none 0 0] 75):=⟨_,rfl⟩
 rw[<-hW1];have hz1:W1.heap.size=w.heap.size+3:=ei;have F1:=@Aa (J7 w b p k t false W1) (by rw[hW1];exact HF0.o.post ((Ar _ _).alloc (Am _) _))
 have K1:=Aa (show Vc (w.heap.size+2+1) (w.heap.size+2) W1 (.int .u8 91) a6 (.int .i64 0) (.slice none 0 0) (.slice none 0 0) []from by
  have hbk:Qi W1 (w.heap.size+2):=by rw[hW1];have:=Qi.new ((w.alloc (.cells #[k.signs,k.base,k.name] 67)).alloc (.cells #[.int .u8 0,a6,.int .i64 0,.slice none 0 0] 75)) #[.int .u8 91,a6,.int .i64 0,.slice none 0 0] 75;simpa using this
  exact⟨by omega,by omega,by omega,hbk,by rw[hW1];simp[go_sem],by rw[hW1];simp[go_sem],by rw[hW1];simp[go_sem],by rw[hW1];simp[go_sem],World.ownsRow_nil _ _ _ _,by simp⟩)
 clear hW1 HF0;refine(Hwt.o _ F1.o.1.1).mono ?_;rintro e W2 ⟨rfl,hs2⟩;have F2:=Aa (F1.o.step hb0 hs2);have K2:=Aa (K1.o.step hs2.2 aF aF);clear hs2 F1 K1;go_wp2_with fail;refine(Htk.o _ F2.o.1.1).mono ?_;rcases hy:Aw [93] t1 b1 with _|r
 ·have Hy:=Aa hy;clear hy;rintro e W3 ⟨rfl,hs3⟩;simp only[Option.getD_none]at hs3;have F3:=Aa (F2.o.step hb0 hs3);have K3:=Aa (K2.o.step hs3.2 aF aF);clear hs3 F2 K2;go_wp2_with fail;go_loopw [] (fun wr=>∃(xs:List (Vl × Value)) (A:Option Addr) (n c:Nat) (tt:List UInt8),tt.length<=t1.length/\wr.cell? (b,1)=tt/\Hid (J7 w b p k tt b1 wr)/\Hid (Vc (w.heap.size+2+1) (w.heap.size+2) wr (.int .u8 91) a6 (.int .i64 0) (.slice A n c) (.slice A n c) xs)/\Hid (LI (Al S 1000 N k) t1 b1 (Av xs) tt))
   (fun wr=>match wr.cell? (b,1)with|some (.string s)=>s.size|_=>0)
  case atStart=>exact⟨[],none,0,0,t1,Am _,F3.o.1.1.2.2.2.1,F3.o,K3.o,LI.init _ _ _⟩
  case round=>
   obtain⟨xs,A,n,c,tt,htl,c1,F,K,hI⟩:=hrel;have s2:=F.o.1.1.2.2.2.2;have hxl:xs.length<=900:=by have:=hI.o.len;simp[Av]at this;omega
   cases b1 with
   |true=>
    go_wp2_with fail;have Hw9:=Aa (fun W (h:Fv W b p tt true)=>Da b p tt [93] true W h aF);refine(Hw9.o _ F.o.1.1).mono ?_;rintro e W7 ⟨rfl,hs7⟩;have F7:=Aa (F.o.step hb0 hs7);have K7:=Aa (K.o.step hs7.2 aF aF);have hfin:=Aa (HQ.o.trans ((Aa (hI.o.bad (N:=N))).o.fin Ht1.o Hb1.o Hy.o));have hle9:=Ei 93 tt true;have hE9:=(Aa (hI.o.bad (N:=N))).o.2.1;obtain⟨t4,ht4⟩:∃t4,t4=(Aw [93] tt true).getD tt:=⟨_,rfl⟩
    obtain⟨b4,hb4⟩:∃b4,b4=(Aw [93] tt true).isNone:=⟨_,rfl⟩
    rw[<-ht4]at F7 hfin hle9;rw[<-hb4]at F7 hfin;have e7:(Av xs).length=(xs).length:=eu;obtain⟨ys,hys⟩:∃ys,ys=xs:=⟨_,rfl⟩
    rw[<-hys]at K7 hfin hE9 e7;have HB9:=Aa (Aa (hI.o.bad (N:=N))).o.2.2;rw[<-hys]at HB9;have hyl:ys.length<=1000:=by rw[hys];omega
    have d0:=K7.o.c0;have d1:=K7.o.c1;have d2:=K7.o.c2;have d3:=K7.o.c3;have s7:=F7.o.1.1.2.1.live 2;have s8:=F7.o.1.1.2.2.2.2;have q7:=F7.o.1.1.1;have hn7:n=ys.length:=Kt K7.o.row;subst hn7;clear hs7 ht4 hb4 hys;by_cases h20:ys.length<=20
    ·have t20:decide ((20:Int)<(ys.length:Int))=false:=aA aF;go_wp2_with ((with_reducible refine Ad (op:=⟨none,.store 75 _ _,_,_,_,none⟩) rfl 75 _ _ rfl (w.heap.size+1) 0 [.int .u8 91,a6,.int .i64 0,.slice A ys.length c] ?_ ?_ ?_ ?_ ?_ ?_);rfl;rfl;(exact F7.o.2.2.1);kernel_rfl;(simp[Value.oneCell']);intro w9 HS9)
     have Z:=J7.fin (t:=t) (N:=N+1) (v:=.mk 91 [] 0 (Av ys)) (sl:=.slice A ys.length c) (r:=q) F7.o hb0 HS9.o ((K7.o.done hyl).mono fun c hc _=>by omega) cN
      cN (.mk aI aF aH HB9.o) aF dH
     exact jb
    have t20:decide ((20:Int)<(ys.length:Int))=true:=aB aF;have F8:=Aa (F7.o.step hb0 ⟨F7.o.1.1.setBad true,A0 _ b 2 (.bool true)⟩);have K8:=Aa (K7.o.step (A0 _ b 2 (.bool true)) aF aF);go_wp2_with ((with_reducible refine Ad (op:=⟨none,.store 75 _ _,_,_,_,none⟩) rfl 75 _ _ rfl (w.heap.size+1) 0 [.int .u8 91,a6,.int .i64 0,.slice A ys.length c] ?_ ?_ ?_ ?_ ?_ ?_);rfl;rfl;(exact F8.o.2.2.1);kernel_rfl;(simp[Value.oneCell']);intro w9 HS9)
    have Z:=J7.fin (t:=t) (N:=N+1) (v:=.mk 91 [] 0 (Av ys)) (sl:=.slice A ys.length c) (r:=q) F8.o hb0 HS9.o ((K8.o.done hyl).mono fun c hc _=>by omega) dy
     dy (.mk aI aF aH HB9.o) aF dH
    exact jb
   |false=>
    have h1N:=HL1.o rfl;go_wp2_with fail;refine M0 [17,18,19,20,21,22,23,24,999]
     (fun ix v W=>match ix with|0=>v=(w,2,3)|1=>v=.slice A n c|2=>v=b|3=>v=Gy k|4=>∃x s,v=Ko x s|5=>∃g,v=.slice (some ⟨g,0,none⟩) 1 1|6=>∃A n c,v=.slice A n c|7=>v=(w,2,3)|_=>True)
     (fun L U W=>Qlv w b (w.heap.size+2) p k (.int .u8 91) a6 (.int .i64 0) (.slice A n c) xs tt false N (Al S 1000 N k tt) (L 4) (L 5) (L 6) (L 8) (U 4) (U 5) (U 6) W) (⟨⟨tt,false,F.o.post (Ar _ _).drew,fun _=>⟨rfl,rfl⟩⟩,fun _=>K.o.after (Ar _ _).drew,fun h=>Bool.noConfusion h⟩) ?_ ?_
    ·repeat (first|exact Ap.nil|(refine Ap.cons ?_ ?_;rotate_left))
     all_goals
      rintro L U W hL hpre HR Hdep K hK;obtain⟨⟨t2,bad2,hF2,hF2'⟩,R2,R3⟩:=HR.o;have k0:=Ab hF2.2.1 0 rfl;have k1:=Ab hF2.2.1 1 rfl;have k2:=Ab hF2.2.1 2 rfl;simp only[aj]at k0 k1 k2;first|(simp[Region.binds]at hpre;done)|simp[Region.binds]at hpre|clear hpre
     ·exact fD
     ·have h6:L 6=false:=Dn Hdep.o 6 1 rfl hL;have g3:=(R2 h6).c3;exact iA
     ·exact fD
     ·go_simp;first|exact hK (Gy k) _ _ rfl Ac HR.o rfl|exact hK (Gy k) _ _ rfl Ac HR.o aG
     ·have h5:L 5=false:=Dn Hdep.o 5 4 rfl hL;have h6:L 6=false:=Dn Hdep.o 6 5 rfl h5;have h8:L 8=false:=Dn Hdep.o 8 6 rfl h6;obtain⟨rfl,rfl⟩:=hF2' hL;go_simp;refine(HH.o t2 false _ (hF2.1.env HW.o hb) hF2.1.1 aF (fun _=>by omega)).mono ?_;rintro e w5 ⟨v,sl,t',rfl,hk5,hs5,hx5,hB5,hl5,hn5⟩;simp only[ak,if_false]at hx5 hs5;have hF5:=hF2.step hb0 hs5;have hK5:=(R2 h6).step hs5.2 aF aF;have hks:E9 (fun g=>w.heap.size+2+1<=g/\(Value.slice A n c).ownBlock≠some g) w5 sl v.kids:=hk5.mono fun c hc _=>⟨by have:=(R2 h6).bs;omega,fun e=>by have:=((R2 h6).row.lt c e).2;omega⟩
      exact hK (Ko v sl) _ _ ⟨v,sl,rfl⟩ Ac ⟨⟨t',_,hF5,fun h=>by simp at h⟩,fun _=>hK5,fun _=>⟨v,sl,t',rfl,⟨hx5,hB5,hl5,hn5⟩,hF5,fun _=>hks,fun h=>absurd (h5.symm.trans aV) aI,fun h=>absurd (h6.symm.trans aV) aI,fun h=>absurd (h8.symm.trans aV) aI⟩⟩ aG
     ·have h6:L 6=false:=Dn Hdep.o 6 5 rfl hL;have h8:L 8=false:=Dn Hdep.o 8 6 rfl h6;obtain⟨v,sl,t',u4,hrd,hF3,hks,_,_,_⟩:=R3 hpre.1;obtain⟨A7,c7,rfl⟩:=(hks h6).form;have hba:Below W W (W.alloc (.cells (Sl (v,.slice A7 v.kids.length c7)).toArray 75)):=(Ar _ _).alloc (Am _) _;unfold Ko at u4;go_simp;exact hK (.slice (W,0) 1 1) _ _ ⟨W.heap.size,rfl⟩ Ac ⟨⟨t',_,hF3.post hba,fun h=>absurd (hpre.1.symm.trans aV) aI⟩,fun _=>(R2 h6).after hba,fun _=>⟨v,_,t',u4,hrd,hF3.post hba,fun _=>(hks h6).after hba,fun _ _=>⟨W,rfl,rfl,R2 h6,hks h6,hF3⟩,fun h=>absurd (h6.symm.trans aV) aI,fun h=>absurd (h8.symm.trans aV) aI⟩⟩ (by simp[Act.put,u4])
     ·have h8:L 8=false:=Dn Hdep.o 8 6 rfl hL;obtain⟨lv,uv⟩:=hpre.1;have ls:L 5=true:=hpre.2.1.1;have lc:L 4=true:=hpre.2.2.1;obtain⟨v,sl,t',u4,hrd,hF3,hks,hs,_,_⟩:=R3 lc;obtain⟨W7,rfl,u5,hK7,hk7,hF7⟩:=hs ls hL;obtain⟨A7,c7,e7⟩:=hk7.form;have hlen7:=hK7.row;rw[if_pos d9];refine Qr W7 (.tmp 18) (.tmp 22) 73 rfl (w.heap.size+2+1) 75 (.agg #[.int .u8 0,a6,.int .i64 0,.slice none 0 0]) 4 56 underlying73 Qd5 rfl aI (Sl (v,sl)) rfl (Qd2 _ (by rw[e7];rfl)) (.slice A n c) xs.length (xs.flatMap Sl) uv u5 hK7.row aY aF hK7.bs ?_;intro v' w' hown hg hwh;obtain⟨A5',n5',c5',rfl⟩:=P6 hown;have hKa:=hK7.app (x:=(v,sl)) hk7 hown hg hwh;have hFa:J7 w b p k t' (Al S 1000 N k tt).isNone w':=hF7.app hb0 hg (fun c e=>by have:=(hK7.row.lt c e).1;omega);exact hK _ _ _ ⟨A5',n5',c5',rfl⟩ Ac ⟨⟨t',_,hFa,fun h=>absurd (lc.symm.trans aV) aI⟩,fun h=>by simp at h,fun _=>⟨v,sl,t',u4,hrd,hFa,fun h=>by simp at h,fun _ h=>by simp at h,fun _ _=>⟨A5',n5',c5',rfl,hKa⟩,fun h=>absurd (h8.symm.trans aV) aI⟩⟩ rfl
     ·exact fD
     ·obtain⟨la,A5',n5',c5',ua⟩:=hpre.2.1;have up:=hpre.1.2;have ls:L 5=true:=by
       cases h5:L 5 with
       |true=>rfl
       |false=>exact absurd (la.symm.trans (Dn Hdep.o 6 5 rfl h5)) aI
      have lc:L 4=true:=by
       cases h4:L 4 with
       |true=>rfl
       |false=>exact absurd (ls.symm.trans (Dn Hdep.o 5 4 rfl h4)) aI
      obtain⟨v,sl,t',u4,hrd,hF3,_,_,ha,_⟩:=R3 lc;obtain⟨A6',n6',c6',ua',hKa⟩:=ha la hL;rw[ua]at hKa;have hcell:=hKa.c3;have hfz:=hKa.bk.live 3;have hst:=hKa.store;have hst2:Vc (w.heap.size+2+1) (w.heap.size+2) (W.setCell ⟨w.heap.size+2,3,none⟩ (.slice A5' n5' c5')) (.int .u8 91) a6 (.int .i64 0) (U 6) (U 6) (xs++[(v,sl)]):=by rw[ua];exact hst
      have hFs:J7 w b p k t' (Al S 1000 N k tt).isNone (W.setCell ⟨w.heap.size+2,3,none⟩ (.slice A5' n5' c5')):=hF3.put hb0 aF _;go_simp;exact hK undef _ _ Ac Ac ⟨⟨t',_,hFs,fun h=>absurd (lc.symm.trans aV) aI⟩,fun h=>absurd (la.symm.trans aV) aI,fun _=>⟨v,sl,t',u4,hrd,hFs,fun h=>absurd (la.symm.trans aV) aI,fun _ h=>absurd (la.symm.trans aV) aI,fun _ h=>by simp at h,fun _=>⟨A5',n5',c5',ua,hst2⟩⟩⟩ (by simp[Act.put,hpre,up,ua,u4])
    rintro L U W hL hφ hR;clear hφ;obtain⟨_,_,h3⟩:=hR;obtain⟨v,sl,t',_,hrd,hF,_,_,_,hd⟩:=h3 (hL 4 aI);obtain⟨A5,n5,c5,e5,hK5⟩:=hd (hL 8 aI);rw[e5]at hK5;have F5:=Aa hF;have K5:=Aa hK5;have Rd5:=Aa hrd;have ht5:=hrd.2.2.1;clear hL h3 hd hF hK5 hrd;have Htk5:=Aa (fun W (h:Fv W b p t' (Al S 1000 N k tt).isNone)=>Jc b p t' [44] (Al S 1000 N k tt).isNone W h aF);go_wp2_with fail;refine(Htk5.o _ F5.o.1.1).mono ?_;rcases hc:Aw [44] t' (Al S 1000 N k tt).isNone with _|r
    ·have Hc:=Aa hc;clear hc;rintro e W6 ⟨rfl,hs6⟩;simp only[Option.getD_none]at hs6;have F6:=Aa (F5.o.step hb0 hs6);have K6:=Aa (K5.o.step hs6.2 aF aF)
     have E6:=Aa (show LE (Al S 1000 N k) t1 false (Av (xs++[(v,sl)])) t' (Al S 1000 N k tt).isNone N from by
      have:=hI.o.brk (N:=N) Rd5.o.1 Hc.o Rd5.o.2.1 aF Rd5.o.2.2.2;simpa [Av]using this)
     clear hs6 F5 K5 Hc;go_wp2_with fail;have Hw9:=Aa (fun W (h:Fv W b p t' (Al S 1000 N k tt).isNone)=>Da b p t' [93] (Al S 1000 N k tt).isNone W h aF);refine(Hw9.o _ F6.o.1.1).mono ?_;rintro e W7 ⟨rfl,hs7⟩;have F7:=Aa (F6.o.step hb0 hs7);have K7:=Aa (K6.o.step hs7.2 aF aF);have hfin:=Aa (HQ.o.trans (E6.o.fin Ht1.o Hb1.o Hy.o));have hle9:=Ei 93 t' (Al S 1000 N k tt).isNone;have hE9:=E6.o.2.1;obtain⟨t4,ht4⟩:∃t4,t4=(Aw [93] t' (Al S 1000 N k tt).isNone).getD t':=⟨_,rfl⟩
     obtain⟨b4,hb4⟩:∃b4,b4=(Aw [93] t' (Al S 1000 N k tt).isNone).isNone:=⟨_,rfl⟩
     rw[<-ht4]at F7 hfin hle9;rw[<-hb4]at F7 hfin;have e7:(Av (xs++[(v,sl)])).length=((xs++[(v,sl)])).length:=eu;obtain⟨ys,hys⟩:∃ys,ys=(xs++[(v,sl)]):=⟨_,rfl⟩
     rw[<-hys]at K7 hfin hE9 e7;have HB9:=Aa E6.o.2.2;rw[<-hys]at HB9;have hyl:ys.length<=1000:=by rw[hys];simp;omega
     have d0:=K7.o.c0;have d1:=K7.o.c1;have d2:=K7.o.c2;have d3:=K7.o.c3;have s7:=F7.o.1.1.2.1.live 2;have s8:=F7.o.1.1.2.2.2.2;have q7:=F7.o.1.1.1;have hn7:n5=ys.length:=Kt K7.o.row;subst hn7;clear hs7 ht4 hb4 hys;by_cases h20:ys.length<=20
     ·have t20:decide ((20:Int)<(ys.length:Int))=false:=aA aF;go_wp2_with ((with_reducible refine Ad (op:=⟨none,.store 75 _ _,_,_,_,none⟩) rfl 75 _ _ rfl (w.heap.size+1) 0 [.int .u8 91,a6,.int .i64 0,.slice A5 ys.length c5] ?_ ?_ ?_ ?_ ?_ ?_);rfl;rfl;(exact F7.o.2.2.1);kernel_rfl;(simp[Value.oneCell']);intro w9 HS9)
      have Z:=J7.fin (t:=t) (N:=N+1) (v:=.mk 91 [] 0 (Av ys)) (sl:=.slice A5 ys.length c5) (r:=q) F7.o hb0 HS9.o ((K7.o.done hyl).mono fun c hc _=>by omega) cN
       cN (.mk aI aF aH HB9.o) aF dH
      exact jc
     have t20:decide ((20:Int)<(ys.length:Int))=true:=aB aF;have F8:=Aa (F7.o.step hb0 ⟨F7.o.1.1.setBad true,A0 _ b 2 (.bool true)⟩);have K8:=Aa (K7.o.step (A0 _ b 2 (.bool true)) aF aF);go_wp2_with ((with_reducible refine Ad (op:=⟨none,.store 75 _ _,_,_,_,none⟩) rfl 75 _ _ rfl (w.heap.size+1) 0 [.int .u8 91,a6,.int .i64 0,.slice A5 ys.length c5] ?_ ?_ ?_ ?_ ?_ ?_);rfl;rfl;(exact F8.o.2.2.1);kernel_rfl;(simp[Value.oneCell']);intro w9 HS9)
     have Z:=J7.fin (t:=t) (N:=N+1) (v:=.mk 91 [] 0 (Av ys)) (sl:=.slice A5 ys.length c5) (r:=q) F8.o hb0 HS9.o ((K8.o.done hyl).mono fun c hc _=>by omega) dy
      dy (.mk aI aF aH HB9.o) aF dH
     exact jc
    have Hc:=Aa hc;have hcl:=Jp hc;clear hc;rintro e W6 ⟨rfl,hs6⟩;simp only[Option.getD_some]at hs6;cases hk:Al S 1000 N k tt with
    |none=>rw[hk,B6]at Hc;exact absurd Hc.o aH
    |some y=>
     have Hk:=Aa hk;rw[hk]at hs6 F5 Rd5;have F6:=Aa (F5.o.step hb0 hs6);have K6:=Aa (K5.o.step hs6.2 aF aF)
     have I6:=Aa (show LI (Al S 1000 N k) t1 false (Av (xs++[(v,sl)])) r from by
      obtain⟨e1,e2⟩:=Rd5.o.1 y rfl;have hg:=HG.o tt y.1 y.2 (by rw[Hk.o]);have h44:Aq 44 t'=some r:=by have:=Hc.o;rw[Hk.o,B6]at this;simpa using this
      have:=hI.o.step (v:=v) (t':=t') (by rw[Hk.o,e1,e2]) (by rw[hg,e1,e2];simp) h44 Rd5.o.2.1 aF;simpa [Av]using this)
     have c6:=F6.o.1.1.2.2.2.1;clear hs6 F5 K5 hk;go_wp2_with fail;go_roundw
     case rel=>exact⟨xs++[(v,sl)],A5,n5,c5,r,by omega,c6,F6.o,K6.o,I6.o⟩
     case measure=>simp[c1,c6,ByteArray.size];omega
 have Hy:=Aa hy;have hlt:=Jp hy;clear hy;rintro e W3 ⟨rfl,hs3⟩;simp only[Option.getD_some]at hs3;have F3:=Aa (F2.o.step hb0 hs3);have K3:=Aa (K2.o.step hs3.2 aF aF);clear hs3 F2 K2;have d0:=K3.o.c0;have d1:=K3.o.c1;have d2:=K3.o.c2;have d3:=K3.o.c3;go_wp2_with ((with_reducible refine Ad (op:=⟨none,.store 75 _ _,_,_,_,none⟩) rfl 75 _ _ rfl (w.heap.size+1) 0 [.int .u8 91,a6,.int .i64 0,.slice none 0 0] ?_ ?_ ?_ ?_ ?_ ?_);rfl;rfl;(exact F3.o.2.2.1);kernel_rfl;(simp[Value.oneCell']);intro w9 HS9)
 have hq2:q=some (.mk 91 [] 0 [],r):=by
  have h1:=Ht1.o;have h2:=Hb1.o;have h3:=Hy.o;rw[HQ.o];rw[B6]at h1 h2 h3;unfold S6;simp only[ak,if_false]at h1 h2;cases h9:Aq 91 t with
  |none=>rw[h9]at h2;simp at h2;subst h2;simp at h3
  |some z=>
   rw[h9]at h1 h2;simp at h1 h2;subst h1 h2;simp only[ak,if_false]at h3;simp only[h3]
 have Z:=J7.fin (t:=t) (N:=N+1) (v:=.mk 91 [] 0 []) (sl:=.slice none 0 0) (r:=q) F3.o hb0 HS9.o (E9.nil _ _) (by rw[hq2];cases b1;rfl;have:=Hy.o;rw[B6]at this;simp at this)
  (by rw[hq2];simp) (Es aI aI) aF (by simp[Bi,D7,H9,As];omega)
 exact aD (v:=.agg (Gv (.mk 91 [] 0 []) (.slice none 0 0)).toArray) (Ax results155 _ _ (w.heap.size+1) _ _ rfl Z.2 underlying75 rfl aJ) rfl Z.1
structure Vb(B:Nat)(W:World)(h0 h1 h2 h3:Value):Prop where
 lt:B<W.heap.size
 bk:Qi W B
 c0:W.cell? (B,0)=some h0
 c1:W.cell? (B,1)=some h1
 c2:W.cell? (B,2)=some h2
 c3:W.cell? (B,3)=some h3
theorem Vb.new{w:World}{h0 h1 h2 h3:Value}{T:TypeId}:Vb w.heap.size (w.alloc (.cells #[h0,h1,h2,h3] T)) h0 h1 h2 h3:=⟨by simp,Qi.new _ _ _,by simp,by simp,by simp,by simp⟩
theorem Vb.grown{B:Nat}{W W':World}{h0 h1 h2 h3:Value}{row:Option Nat}(h:Vb B W h0 h1 h2 h3)(hg:W.grownBy W' row)(hn:some B≠row):Vb B W' h0 h1 h2 h3:=
 ⟨a8 h.lt hg.size,h.bk.grown h.lt hg hn,hg.cell h.c0 hn,hg.cell h.c1 hn,hg.cell h.c2 hn,hg.cell h.c3 hn⟩
theorem Vb.after{B:Nat}{W W':World}{h0 h1 h2 h3:Value}(h:Vb B W h0 h1 h2 h3)(hb:Below W W W'):Vb B W' h0 h1 h2 h3:=h.grown (Ct hb none) aH
theorem Vb.set2{B:Nat}{W:World}{h0 h1 h2 h3:Value}(h:Vb B W h0 h1 h2 h3)(v:Value):Vb B (W.setCell ⟨B,2,none⟩ v) h0 h1 v h3:=by
 have hf:=h.bk.live 2;exact⟨by simpa using h.lt,h.bk.set _,by simp[go_sem,h.c0],by simp[go_sem,h.c1],by simp[go_sem,h.c2,hf],by simp[go_sem,h.c3]⟩
theorem Vb.set3{B:Nat}{W:World}{h0 h1 h2 h3:Value}(h:Vb B W h0 h1 h2 h3)(v:Value):Vb B (W.setCell ⟨B,3,none⟩ v) h0 h1 h2 v:=by
 have hf:=h.bk.live 3;exact⟨by simpa using h.lt,h.bk.set _,by simp[go_sem,h.c0],by simp[go_sem,h.c1],by simp[go_sem,h.c2],by simp[go_sem,h.c3,hf]⟩
theorem Pg.init{w:World}{b:Nat}{p:Value}{t:List UInt8}{bad:Bool}(h:Fv w b p t bad){T:TypeId}:Pg w b p w.heap.size t bad (w.alloc (.cells #[.int .u8 0,a6,.int .i64 0,.slice none 0 0] T)):=
 ⟨⟨h.grow ((Ar _ _).alloc (Am _) _),Ct ((Ar _ _).alloc (Am _) _) _⟩,B9 w [.int .u8 0,a6,.int .i64 0,.slice none 0 0] _,Am _,by simp⟩
theorem Qjo(fs:List Fd)(t:List UInt8)(t1 t2:List UInt8)(b1 b2:Bool)(h1:t1=(Aw [35] t false).getD t)(hb1:b1=(Aw [35] t false).isNone)(h2:t2=t1.dropWhile Az)(hb2:b2=(b1 || !Ga 200 t1)):
  (match Aq 35 t with
   |none=>none
   |some r=>match Fo fs r with|some (f,q)=>some (Vl.mk 69 [] f.tag [],q)|none=>none)=if b2 || (Bl fs (Gs t1)).isNone then none else some (.mk 69 [] (Gs t1) [],t2):=by
 rw[B6]at h1 hb1;simp only[ak,if_false]at h1 hb1;cases hy:Aq 35 t with
 |none=>rw[hy]at hb1;simp at hb1;subst hb1 hb2;simp
 |some r=>
  rw[hy]at h1 hb1;simp at h1 hb1;subst h1 hb1 h2 hb2;simp only[Qap];cases Ga 200 t1 with
  |false=>simp
  |true=>
   simp only[if_true,Bool.false_or,Bool.not_true];cases hf:Bl fs (Gs t1)with
   |none=>simp
   |some f=>have:=(Ci hf).1;simp[this]
theorem Qg9(w0:World)(b N:Nat)(p:Value)(S:List Ty)(x:PT)(hx:Td w0 x)(h9:x.ty.sort=69)(t:List UInt8)(w:World)(hw:Below w0 w0 w)(hb:w0.heap.size<=b)(h:Fv w b p t false)(hl:t.length<=900)
  (q:Option (Vl × List UInt8)) (hq:q=Jq S (Al S 1000 N) x.ty t):
  Calls prog 158 #[b,x.blk] w (Kb w b p t (N+1) q):=by
 have HQ:=Aa (hq.trans (by unfold Jq;rw[if_pos h9]));have HS:=Aa h;have HW:=Aa hw;have hb0:=h.1;have hx0:=hx.1;have x0:=(hw.cell (p:=⟨x.blk,0,none⟩) hx0).trans hx.2.2.1;have hxw:x.blk<w.heap.size:=eO;have hxn:¬(x.blk=w.heap.size):=eO;have hxn2:¬(x.blk=w.heap.size+1):=eO;rw[h9]at x0;have x0':w.cell? (x.blk,0)=some (.int .u8 69):=x0;clear x0;have hm:=Ei 35 t false;have Hwt:=Aa (fun W (h:Fv W b p t false)=>Da b p t [35] false W h aF);obtain⟨t1,ht1⟩:∃t1,t1=(Aw [35] t false).getD t:=⟨_,rfl⟩
 obtain⟨b1,hb1⟩:∃b1,b1=(Aw [35] t false).isNone:=⟨_,rfl⟩
 have HQ2:=Aa (HQ.o.trans (Qjo x.ty.fields t t1 (t1.dropWhile Az) b1 (b1 || !Ga 200 t1) ht1 hb1 rfl rfl));rw[<-ht1]at hm;rw[<-ht1,<-hb1]at Hwt;have Hn:=Aa (fun W (h:Fv W b p t1 b1)=>Nz b 200 p t1 b1 W h aF aI);have hnn:=Qan t1;have hdr:=Zo Az t1;have Hf:=Aa (fun W (hW:Below w0 w0 W)=>P9 w0 x hx (Gs t1) W hW aF);have hdl:=Di 5 (Gs t1) du;generalize (b1 || !Ga 200 t1)=b2 at *;generalize t1.dropWhile Az=t2 at *;generalize Gs t1=n at *;clear ht1 hb1 h hw hq h9 HQ;go_enter func158,ntmps158;go_wp2_with fail;have F1:=Aa ((Pg.init HS.o (T:=75)).post ((Ar _ _).alloc (Am _) (.cells #[.int .u8 69,a6,.int .i64 0,.slice none 0 0] 75)));have V1:=@Aa (Vb (w.heap.size+1) _ _ _ _ _) (by have:=Vb.new (w:=w.alloc (.cells #[.int .u8 0,a6,.int .i64 0,.slice none 0 0] 75)) (h0:=.int .u8 69) (h1:=a6) (h2:=.int .i64 0) (h3:=.slice none 0 0) (T:=75);simpa using this);refine(Hwt.o _ F1.o.1.1).mono ?_;rintro e w2 ⟨rfl,hs2⟩;have F2:=Aa (F1.o.step hb0 hs2);have V2:=Aa (V1.o.grown hs2.2 aL);clear hs2 F1 V1;go_wp2_with fail;refine(Hn.o _ F2.o.1.1).mono ?_;rintro e w3 ⟨rfl,hs3⟩;have F3:=Aa (F2.o.step hb0 hs3);have V3:=Aa (V2.o.grown hs3.2 aL);clear hs3 F2 V2;have c2:=V3.o.c2;have f2:=V3.o.bk.live 2;have l2:=V3.o.lt;go_wp2_with fail;have F4:=Aa (F3.o.app hb0 (A0 w3 (w.heap.size+1) 2 (n:Int)) (fun k e=>by injection e with e;omega));have V4:=Aa (V3.o.set2 (n:Int));refine(Hf.o _ (F4.o.1.env HW.o hb)).mono ?_;rintro e w4 ⟨fp,rfl,hfp,rfl⟩;cases hfo:Bl x.ty.fields n with
 |some g=>
  rw[hfo]at hfp HQ2;obtain⟨fb,fo,rfl,_,_⟩:=hfp;have d0:=V4.o.c0;have d1:=V4.o.c1;have d2:=V4.o.c2;have d3:=V4.o.c3;clear hfo c2 f2 l2;generalize w3.setCell ⟨w.heap.size+1,2,none⟩ (n:Int)=w4 at *;go_wp2_with ((with_reducible refine Ad (op:=⟨none,.store 75 _ _,_,_,_,none⟩) rfl 75 _ _ rfl w 0 [.int .u8 69,a6,(n:Int),.slice none 0 0] ?_ ?_ ?_ ?_ ?_ ?_);rfl;rfl;(exact F4.o.2.1);kernel_rfl;(simp[Value.oneCell']);intro w9 HS9)
  have Z:=Pg.fin (v:=.mk 69 [] n []) (sl:=.slice none 0 0) F4.o hb0 HS9.o (E9.nil _ _);refine aD (v:=.agg (Gv (.mk 69 [] n []) (.slice none 0 0)).toArray) (Ax results158 _ _ w.heap.size _ _ rfl Z.2.2 underlying75 rfl aJ) rfl ⟨.mk 69 [] n [],_,t2,rfl,Z.1,?_,?_,Es aF aI,by omega,by simp[Bi,D7,H9];omega⟩
  ·rw[HQ2.o];cases b2<;>exact Z.2.1
  rw[HQ2.o];cases b2<;>simp
 |none=>
  rw[hfo]at hfp HQ2;have hfp':fp=.pointer none:=hfp;subst hfp';have s2:=F4.o.1.1.2.2.2.2;have sb:=F4.o.1.1.2.1.live 2;have s0:=F4.o.1.1.1;clear hfo c2 f2 l2;generalize w3.setCell ⟨w.heap.size+1,2,none⟩ (n:Int)=w4 at *;have F5:=Aa (F4.o.step hb0 ⟨F4.o.1.1.setBad true,A0 _ b 2 (.bool true)⟩);have V5:=Aa (V4.o.grown (A0 w4 b 2 (.bool true)) aL);have d0:=V5.o.c0;have d1:=V5.o.c1;have d2:=V5.o.c2;have d3:=V5.o.c3;go_wp2_with ((with_reducible refine Ad (op:=⟨none,.store 75 _ _,_,_,_,none⟩) rfl 75 _ _ rfl w 0 [.int .u8 69,a6,(n:Int),.slice none 0 0] ?_ ?_ ?_ ?_ ?_ ?_);rfl;rfl;(exact F5.o.2.1);kernel_rfl;(simp[Value.oneCell']);intro w9 HS9)
  have Z:=Pg.fin (v:=.mk 69 [] n []) (sl:=.slice none 0 0) F5.o hb0 HS9.o (E9.nil _ _);refine aD (v:=.agg (Gv (.mk 69 [] n []) (.slice none 0 0)).toArray) (Ax results158 _ _ w.heap.size _ _ rfl Z.2.2 underlying75 rfl aJ) rfl ⟨.mk 69 [] n [],_,t2,rfl,Z.1,?_,?_,Es aF aI,by omega,by simp[Bi,D7,H9];omega⟩
  ·rw[HQ2.o];simpa using Z.2.1
  rw[HQ2.o];simp
def Qh2(q1:Option ((Fd × Vl) × List UInt8))(t2:List UInt8):Option (Vl × List UInt8):=match q1 with
 |none=>none
 |some (p,_)=>if (Aw [62] t2 false).isNone then none else some (.mk 85 [] p.1.tag [p.2],(Aw [62] t2 false).getD t2)
theorem Qjm(K:Kd->List UInt8->Option (Vl × List UInt8))(fs:List Fd)(t t1 t2:List UInt8)(b1:Bool)(q1:Option ((Fd × Vl) × List UInt8))(h1:t1=(Aw [60] t false).getD t)(hb1:b1=(Aw [60] t false).isNone)(h2:q1=if b1 then none else Cu K fs t1)(h3:∀y,q1=some y->t2=y.2):
  (match Aq 60 t with
   |none=>none
   |some r=>match Cu K fs r with
    |none=>none
    |some (p,q)=>match Aq 62 q with|some z=>some (Vl.mk 85 [] p.1.tag [p.2],z)|none=>none) =
  Qh2 q1 t2:=by
 rw[B6]at h1 hb1;simp only[ak,if_false]at h1 hb1;cases hy:Aq 60 t with
 |none=>rw[hy]at hb1;simp at hb1;subst hb1;simp at h2;subst h2;simp[Qh2]
 |some r=>
  rw[hy]at h1 hb1;simp at h1 hb1;subst h1 hb1;simp only[ak,if_false]at h2;subst h2;simp only;cases hk:Cu K fs t1 with
  |none=>simp[Qh2]
  |some y=>
   obtain⟨p,q⟩:=y;obtain rfl:=h3 _ hk;simp only[Qh2,B6,ak,if_false];cases Aq 62 t2<;>simp
structure Qay(w0 w:World)(b B X:Nat)(p:Value)(t:List UInt8)(bad:Bool)(g:Fd)(x:Vl)(fp:Value)(sl h2 h3:Value)(W:World):Prop where
 f:Pg w b p w.heap.size t bad W
 v:Vb B W (.int .u8 85) a6 h2 h3
 xr:W.rangeAt X 0 [.int .u8 61,a6,(g.tag:Int),sl]
 k:E9 (fun c=>B<c) W sl [x]
 p:G8 w0.heap.size W fp (some g)
 lw:Below w0 w0 W
theorem Qay.put{w0 w W:World}{b B X o:Nat}{p:Value}{t:List UInt8}{bad:Bool}{g:Fd}{x:Vl}{fp sl h2 h3 h2' h3':Value}(h:Qay w0 w b B X p t bad g x fp sl h2 h3 W)(u:Value)(hV:Vb B (W.setCell ⟨B,o,none⟩ u) (.int .u8 85) a6 h2' h3')
  (hb:b<w.heap.size) (hB:w.heap.size<B) (hX:B<X) (h0:w0.heap.size<=w.heap.size):Qay w0 w b B X p t bad g x fp sl h2' h3' (W.setCell ⟨B,o,none⟩ u):=by
 have hg:=A0 W B o u;have hlw:Below w0 w0 (W.setCell ⟨B,o,none⟩ u):=h.lw.grown hg h.lw.size fun k hk=>by injection hk with hk;omega
 exact⟨h.f.app hb hg (fun k e=>by injection e with e;omega),hV,Gb h.xr hg cb,h.k.grown hg (fun c hc e=>by injection e with e;omega),h.p.via h.lw hlw,hlw⟩
theorem Qay.drew{w0 w W:World}{b B X:Nat}{p:Value}{t:List UInt8}{bad:Bool}{g:Fd}{x:Vl}{fp sl h2 h3:Value}(h:Qay w0 w b B X p t bad g x fp sl h2 h3 W):Qay w0 w b B X p t bad g x fp sl h2 h3 W.drew:=
 ⟨h.f.post (Ar _ _).drew,h.v.after (Ar _ _).drew,h.xr,h.k.after (Ar _ _).drew,h.p.via h.lw h.lw.drew,h.lw.drew⟩
theorem Qhg(w0:World)(b N:Nat)(p:Value)(S:List Ty)(x:PT)(hx:Td w0 x)(h5:x.ty.sort=85)(t:List UInt8)(w:World)(hw:Below w0 w0 w)(hb:w0.heap.size<=b)(h:Fv w b p t false)(hl:t.length<=900)(hN:t.length<=N)(hN2:N<=2000)
  (htg:∀f∈x.ty.fields,f.tag<=200) (H:∀f∈x.ty.fields,IvC w0 b p S N f.kind) (q:Option (Vl × List UInt8)) (hq:q=Jq S (Al S 1000 N) x.ty t):
  Calls prog 158 #[b,x.blk] w (Kb w b p t (N+1) q):=by
 have HQ:=Aa (hq.trans (by unfold Jq;rw[if_neg eJ,if_pos h5]));have HS:=Aa h;have HW:=Aa hw;have hb0:=h.1;have hx0:=hx.1;have hww:=hw.size;have x0:=(hw.cell (p:=⟨x.blk,0,none⟩) hx0).trans hx.2.2.1;have hxw:x.blk<w.heap.size:=aF;have hxn:¬(x.blk=w.heap.size):=aF;have hxn2:¬(x.blk=w.heap.size+1):=aF;rw[h5]at x0;have x0':w.cell? (x.blk,0)=some (.int .u8 85):=x0;clear x0;have hm:=Ei 60 t false;have Hwt:=Aa (fun W (h:Fv W b p t false)=>Da b p t [60] false W h aF);obtain⟨t1,ht1⟩:∃t1,t1=(Aw [60] t false).getD t:=⟨_,rfl⟩
 obtain⟨b1,hb1⟩:∃b1,b1=(Aw [60] t false).isNone:=⟨_,rfl⟩
 obtain⟨q1,hq1⟩:∃q1,q1=if b1 then none else Cu (Al S 1000 N) x.ty.fields t1:=⟨_,rfl⟩
 have HQ2:=Aa (fun t2 h3=>HQ.o.trans (Qjm (Al S 1000 N) x.ty.fields t t1 t2 b1 q1 ht1 hb1 hq1 h3));rw[<-ht1]at hm;rw[<-ht1,<-hb1]at Hwt;have Hfd:=Aa (fun W (h1:Below w0 w0 W) (h2:Fv W b p t1 b1)=>Qbm w0 b N p S x hx t1 W h1 hb b1 h2 aF (fun _=>by omega) hN2 htg H q1 hq1);clear ht1 hb1 h hw hq h5 HQ hq1 H;go_enter func158,ntmps158;go_wp2_with fail;have F1:=Aa ((Pg.init HS.o (T:=75)).post ((Ar _ _).alloc (Am _) (.cells #[.int .u8 85,a6,.int .i64 0,.slice none 0 0] 75)));have V1:=@Aa (Vb (w.heap.size+1) _ _ _ _ _) (by have:=Vb.new (w:=w.alloc (.cells #[.int .u8 0,a6,.int .i64 0,.slice none 0 0] 75)) (h0:=.int .u8 85) (h1:=a6) (h2:=.int .i64 0) (h3:=.slice none 0 0) (T:=75);simpa using this);refine(Hwt.o _ F1.o.1.1).mono ?_;rintro e w2 ⟨rfl,hs2⟩;have F2:=Aa (F1.o.step hb0 hs2);have V2:=Aa (V1.o.grown hs2.2 aL);have hz2:w.heap.size+2<=w2.heap.size:=by have:=hs2.2.size;simp at this;omega
 clear hs2 F1 V1;go_wp2_with fail;refine(Hfd.o _ (F2.o.1.env HW.o hb) F2.o.1.1).mono ?_;rintro e w3 ⟨v,sl,fp,t2,rfl,hk3,hs3,hB3,hl3,hn3,hcase⟩;obtain⟨A7,c7,rfl⟩:=hk3.form;have F3:=Aa (F2.o.step hb0 hs3);have V3:=Aa (V2.o.grown hs3.2 aL);have Hk3:=Aa hk3;have hz3:w2.heap.size<=w3.heap.size:=hs3.2.size;clear hs3 F2 V2 hk3;unfold Ko;have hm3:=Ei 62 t2 q1.isNone;have Hwt2:=Aa (fun W (h:Fv W b p t2 q1.isNone)=>Da b p t2 [62] q1.isNone W h aF);rcases hcase with⟨rfl,hq1⟩|⟨g,y,hfp,rfl,hfg,hBy,hy⟩
 ·have HQ3:=@Aa (q=none) (by rw[HQ2.o t2 (by rw[hq1];simp),hq1];rfl);have hw3:Aw [62] t2 q1.isNone=none:=by rw[hq1,B6];rfl
  rw[hw3]at Hwt2;simp only[Option.getD_none,Option.isNone_none]at Hwt2;clear hq1 hw3 HQ2 hB3;go_wp2_with fail;have F4:=Aa (F3.o.post ((Ar w3.heap.size w3).alloc (Am _) (.cells #[.int .u8 (v.what.toNat:Int),v.text,(v.tag:Int),.slice A7 v.kids.length c7] 75)));have V4:=Aa (V3.o.after ((Ar w3.heap.size w3).alloc (Am _) (.cells #[.int .u8 (v.what.toNat:Int),v.text,(v.tag:Int),.slice A7 v.kids.length c7] 75)));refine(Hwt2.o _ F4.o.1.1).mono ?_;rintro e w5 ⟨rfl,hs5⟩;have F5:=Aa (F4.o.step hb0 hs5);have V5:=Aa (V4.o.grown hs5.2 aL);have d0:=V5.o.c0;have d1:=V5.o.c1;have d2:=V5.o.c2;have d3:=V5.o.c3;clear hs5 F4 V4;go_wp2_with ((with_reducible refine Ad (op:=⟨none,.store 75 _ _,_,_,_,none⟩) rfl 75 _ _ rfl w 0 [.int .u8 85,a6,.int .i64 0,.slice none 0 0] ?_ ?_ ?_ ?_ ?_ ?_);rfl;rfl;(exact F5.o.2.1);kernel_rfl;(simp[Value.oneCell']);intro w9 HS9)
  have Z:=Pg.fin (v:=.mk 85 [] 0 []) (sl:=.slice none 0 0) F5.o hb0 HS9.o (E9.nil _ _);exact aD (v:=.agg (Gv (.mk 85 [] 0 []) (.slice none 0 0)).toArray) (Ax results158 _ _ w.heap.size _ _ rfl Z.2.2 underlying75 rfl aJ) rfl ⟨.mk 85 [] 0 [],_,t2,rfl,Z.1,by rw[HQ3.o];exact Z.2.1,by rw[HQ3.o];simp,Es aI aI,by omega,by simp[Bi,D7,H9,As,Ed];omega⟩
 have HQ3:=Aa (HQ2.o t2 (fun z hz=>by rw[hy z hz]));obtain⟨t4,ht4⟩:∃t4,t4=(Aw [62] t2 q1.isNone).getD t2:=⟨_,rfl⟩
 obtain⟨b4,hb4⟩:∃b4,b4=(Aw [62] t2 q1.isNone).isNone:=⟨_,rfl⟩
 rw[<-ht4,<-hb4]at Hwt2;rw[<-ht4]at hm3
 have HQ4:=Aa (show q=if b4 then none else some (.mk 85 [] g.tag [y],t4)from by
  rw[HQ3.o];cases hq1:q1 with
  |none=>rw[hq1,B6]at hb4;simp at hb4;subst hb4;rfl
  |some z=>
   obtain⟨z1,z2⟩:=z;have:=hy _ hq1;injection this with e1 e2;subst e1;rw[hq1]at ht4 hb4;unfold Qh2;simp only;rw[ht4,hb4];rfl)
 have hpl:=Pq (g,y);obtain⟨fb,fo,rfl,hfb,hfr⟩:=hfp;have HP3:=@Aa (G8 w0.heap.size w3 (.pointer (some ⟨fb,fo,none⟩)) (some g)) ⟨fb,fo,rfl,hfb,hfr⟩;have hgt:=htg g (Ci hfg).2;have HBy:=Aa hBy;clear ht4 hb4 HQ2 HQ3 hB3 hfr hy hBy hfg;simp only[Ee,Vl.what,Vl.text,Vl.tag,Vl.kids,List.length_singleton]at Hk3 hn3 ⊢;go_wp2_with fail;obtain⟨W4,hW4⟩:∃W4,W4=w3.alloc (.cells #[.int .u8 61,a6,(g.tag:Int),.slice A7 1 c7] 75):=⟨_,rfl⟩
 have hb4:Below w3 w3 W4:=by rw[hW4];exact(Ar _ _).alloc (Am _) _
 have X4:=@Aa (W4.rangeAt w3 0 [.int .u8 61,a6,(g.tag:Int),.slice A7 1 c7]) (by rw[hW4];exact Bo w3 [.int .u8 61,a6,(g.tag:Int),.slice A7 1 c7] _);have hz4:w3.heap.size<W4.heap.size:=by rw[hW4];simp
 have F4:=Aa (F3.o.post hb4);have V4:=Aa (V3.o.after hb4);have Hk4:=Aa (Hk3.o.after hb4);have HP4:=Aa (HP3.o.via (F3.o.1.env HW.o hb) (F4.o.1.env HW.o hb));have hW4':w3.alloc (.cells #[.int .u8 ((61:UInt8).toNat:Int),([]:List UInt8),(g.tag:Int),.slice A7 1 c7] 75)=W4:=hW4.symm;first|rw[<-hW4]|rw[hW4']
 generalize w3.heap.size=BX at *;clear hW4 hW4' hb4 F3 V3 Hk3 HP3;refine(Hwt2.o _ F4.o.1.1).mono ?_;rintro e w5 ⟨rfl,hs5⟩;have F5:=Aa (F4.o.step hb0 hs5);have V5:=Aa (V4.o.grown hs5.2 aL)
 have U5:=Aa (show Qay w0 w b (w.heap.size+1) BX p t4 b4 g y (.pointer (some ⟨fb,fo,none⟩)) (.slice A7 1 c7) (.int .i64 0) (.slice none 0 0) w5 from
  ⟨F5.o,V5.o,Gb X4.o hs5.2 aL,(Hk4.o.grown hs5.2 (fun c hc e=>by injection e with e;omega)).mono (fun c hc _=>by omega),HP4.o.via (F4.o.1.env HW.o hb) (F5.o.1.env HW.o hb),F5.o.1.env HW.o hb⟩)
 clear hs5 F4 V4 X4 Hk4 HP4;go_wp2_with fail;refine M0 [107,108,109,110,111,112,113,999,114,998]
  (fun ix v W=>match ix with|0=>v=.pointer (some ⟨fb,fo,none⟩)|1=>v=.pointer (some ⟨fb,fo,none⟩)|2=>v=.pointer (some ⟨fb,fo,none⟩)|3=>v=(g.tag:Int)|4=>v=(BX,3)|5=>v=.slice A7 1 c7|6=>v=(w,1,2)|8=>v=(w,1,3)|_=>True)
  (fun L U W=>Qay w0 w b (w.heap.size+1) BX p t4 b4 g y (.pointer (some ⟨fb,fo,none⟩)) (.slice A7 1 c7) (if L 7=true then (g.tag:Int)else .int .i64 0) (if L 9=true then .slice A7 1 c7 else .slice none 0 0) W) (by simpa using U5.o.drew) ?_ ?_
 ·repeat (first|exact Ap.nil|(refine Ap.cons ?_ ?_;rotate_left))
  all_goals
   rintro L U W hL hpre HR Hdep K hK;have hU:=HR.o;have m3:=hU.xr 3 _ rfl;simp only[aj]at m3;have fb0:W.cell? ⟨fb,fo,none⟩=(g.tag:Int):=by obtain⟨a1,a2,a3,_,a5⟩:=hU.p;injection a3 with a3;injection a3 with a3;injection a3 with a3 a4;subst a3 a4;simpa using Ab a5 0 rfl
   first|(simp[Region.binds]at hpre;done)|simp[Region.binds]at hpre|clear hpre
  iterate 7
   ·exact fD
  ·have q2:=hU.v.c2;have qf:=hU.v.bk.live 2;have ql:=hU.v.lt;have hst:=hU.put (g.tag:Int) (hU.v.set2 _) hb0 aF aF hww;exact jd
  ·exact fD
  ·have q3:=hU.v.c3;have qf:=hU.v.bk.live 3;have ql:=hU.v.lt;have hst:=hU.put (.slice A7 1 c7) (hU.v.set3 _) hb0 aF aF hww;exact jd
 rintro L U W hL hφ hR;clear hφ;have hU:=hR;simp only[hL 7 aI,hL 9 aI,if_true]at hU;have U6:=Aa hU;have d0:=hU.v.c0;have d1:=hU.v.c1;have d2:=hU.v.c2;have d3:=hU.v.c3;clear hL hR hU;go_wp2_with ((with_reducible refine Ad (op:=⟨none,.store 75 _ _,_,_,_,none⟩) rfl 75 _ _ rfl w 0 [.int .u8 85,a6,(g.tag:Int),.slice A7 1 c7] ?_ ?_ ?_ ?_ ?_ ?_);rfl;rfl;(exact U6.o.f.2.1);kernel_rfl;(simp[Value.oneCell']);intro w9 HS9)
 have Z:=Pg.fin (v:=.mk 85 [] g.tag [y]) (sl:=.slice A7 1 c7) U6.o.f hb0 HS9.o (U6.o.k.mono fun c hc _=>by omega);have hpv:(Bi (.mk 85 [] g.tag [y])).length=(Bi (Ee (g,y))).length+2:=by rw[Tf];simp
 have hn3':(Bi (Ee (g,y))).length+t2.length<=t1.length+8*N:=hn3;exact aD (v:=.agg (Gv (.mk 85 [] g.tag [y]) (.slice A7 1 c7)).toArray) (Ax results158 _ _ w.heap.size _ _ rfl Z.2.2 underlying75 rfl aJ) rfl ⟨.mk 85 [] g.tag [y],_,t4,rfl,Z.1,by rw[HQ4.o];cases b4<;>exact Z.2.1,by rw[HQ4.o];cases b4<;>simp,.mk aF (by simp only[Pq]at hn3';simp[Ef];omega) aH (fun z hz=>by rw[an]at hz;subst hz;exact HBy.o),by omega,by omega⟩
end
end Go.Proofs.YtgfmljfjgohdcaaGreatDoor
