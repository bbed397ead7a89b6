/- Texts joined. Conditions: as each theorem names them. -/
import Derived.Test.YtpjijpcemejlnaaGreatDoorP22
set_option maxRecDepth 100000
set_option maxHeartbeats 32000000
set_option linter.unusedVariables false
set_option linter.unusedSimpArgs false
namespace Go.Proofs.YtpjijpcemejlnaaGreatDoor
open Go.RowKit Go.Proofs.Tryz
section
attribute [local go_sem] Qhy Qhh Qg3 Qfo ByteArray.mk_append_mk
def Nk(w:World)(b:Nat)(p:Value)(R:Nat)(t:List UInt8)(bad:Bool)(W:World):Prop:=C7 w b p t bad W/\W.there R 0 4/\w.heap.size<=R/\R<W.heap.size
theorem Nk.post{w W W':World}{b R:Nat}{p:Value}{t:List UInt8}{bad:Bool}(h:Nk w b p R t bad W)(hb:Below W W W'):Nk w b p R t bad W':=
 ⟨h.1.post hb,As h.2.1 h.2.2.2 hb,h.2.2.1,ac h.2.2.2 hb.size⟩
theorem Nk.step{w W W':World}{b R:Nat}{p:Value}{t t':List UInt8}{bad bad':Bool}(h:Nk w b p R t bad W)(hb:b<w.heap.size)(hs:C7 W b p t' bad' W'):Nk w b p R t' bad' W':=
 ⟨h.1.trans hs,Fx h.2.1 hs.2 h.2.2.2 (by have:=h.2.2.1;simp;omega),h.2.2.1,ac h.2.2.2 hs.2.size⟩
theorem C7.app{w W W':World}{b:Nat}{p:Value}{t:List UInt8}{bad:Bool}{row:Option Nat}(h:C7 w b p t bad W)(hb:b<w.heap.size)(hg:W.grownBy W' row)(hr:∀k,row=some k->w.heap.size<=k):C7 w b p t bad W':=by
 have hn:∀c,c<w.heap.size->some c≠row:=fun c hc e=>by have:=hr c e.symm;omega
 obtain⟨⟨h0,h1,h2,h3,h4⟩,hg0⟩:=h;exact⟨⟨ac h0 hg.size,h1.grown h0 hg (hn b hb),hg.cell h2 (hn b hb),hg.cell h3 (hn b hb),hg.cell h4 (hn b hb)⟩,⟨hg.os.trans hg0.os,hg.tape.trans hg0.tape,hg.output.trans hg0.output,ad hg0.size hg.size,fun k hk hne=>(hg.block k (ac hk hg0.size) (hn k hk)).trans (hg0.block k hk hne)⟩⟩
theorem Nk.app{w W W':World}{b R:Nat}{p:Value}{t:List UInt8}{bad:Bool}{row:Option Nat}(h:Nk w b p R t bad W)(hb:b<w.heap.size)(hg:W.grownBy W' row)(hr:∀k,row=some k->R<k):Nk w b p R t bad W':=
 ⟨h.1.app hb hg fun k e=>by have:=hr k e;have:=h.2.2.1;omega,Fx h.2.1 hg h.2.2.2 (fun e=>by have:=hr R e.symm;omega),h.2.2.1,ac h.2.2.2 hg.size⟩
theorem Nk.fin{w W w9:World}{b R:Nat}{p:Value}{t:List UInt8}{bad:Bool}{v:Vl}{sl:Value}(F:Nk w b p R t bad W)(hb:b<w.heap.size)(HS:w9=W.setCells R 0 (Gf v sl))(hv:Eb (fun c=>R<c) W sl v.kids):
  Eb (fun c=>w.heap.size<=c) w9 sl v.kids/\C7 w b p t bad w9/\w9.rangeAt R 0 (Gf v sl):=by
 subst HS;have:=F.2.2.1;exact⟨(hv.set (B:=R) aG _).mono fun c hc _=>by omega,F.1.set aG aG _,aa _ _ _ _ F.2.1⟩
def Qg6(w0 w:World)(b:Nat)(p:Value)(t:List UInt8)(N:Nat)(fs:List Fd)(r:Option ((Fd × Vl) × List UInt8))(e:Ending)(w':World):Prop:=
 ∃(v:Vl) (sl fp:Value) (t':List UInt8),e=.returned (.tuple #[Kc v sl,fp])/\Eb (fun c=>w.heap.size<=c) w' sl v.kids/\C7 w b p t' r.isNone w'/\Bd v/\t'.length<=t.length/\(Bg v).length+t'.length<=t.length+8*N /\
  ((fp=.pointer none/\r=none)\/∃g x,Gp w0.heap.size w' fp (some g)/\v=Do (g,x)/\Bu fs g.tag=some g/\Bd x/\∀y,r=some y->y=((g,x),t'))
theorem Gp.via{B:Nat}{w0 W W':World}{v:Value}{o:Option Fd}(h:Gp B W v o)(h1:Below B w0 W)(h2:Below B w0 W'):Gp B W' v o:=by
 cases o with
 |none=>exact h
 |some f=>
  obtain⟨b,o,e,hb,hr⟩:=h;exact⟨b,o,e,hb,fun j u hu=>(h2.cell (p:=⟨b,o+j,none⟩) hb).trans ((h1.cell (p:=⟨b,o+j,none⟩) hb).symm.trans (hr j u hu))⟩
theorem Yv(fs:List Fd)(t:List UInt8):E7 fs t=if Fq 200 t then(Bu fs (Ge t)).map (fun f=>(f,t.dropWhile Az))else none:=by
 unfold E7;rw[Y7];unfold Fq Ge;cases h:Cf (t.takeWhile Az)with
 |none=>simp
 |some n=>
  have:=(Bt.1 h).1;simp only[decide_eq_true_eq,this,if_true,Option.getD_some];by_cases h2:n<=200
  ·rw[if_pos h2,if_pos h2];cases Bu fs n<;>rfl
  rw[if_neg h2,if_neg h2]
theorem Qb8(K:Kd->List UInt8->Option (Vl × List UInt8))(fs:List Fd)(t:List UInt8):Cp K fs t=match Bu fs (Ge t)with
  |none=>none
  |some f=>match Aw [61] (t.dropWhile Az) (!Fq 200 t)with
   |none=>none
   |some q=>match K f.kind q with|some (v,z)=>some ((f,v),z)|none=>none:=by
 unfold Cp;rw[Yv];simp only[Bz];cases Fq 200 t<;>cases Bu fs (Ge t)<;>simp
 rfl
theorem Qfv(t:List UInt8)(h:Fq 200 t=true):(An (Ge t)).length+(t.dropWhile Az).length=t.length:=by
 unfold Fq at h;unfold Ge;cases hd:Cf (t.takeWhile Az)with
 |none=>rw[hd]at h;cases h
 |some n=>
  have e:=(Bt.1 hd).2;simp only[Option.getD_some];rw[<-e,<-ah,List.takeWhile_append_dropWhile]
theorem X9(w0:World)(b N:Nat)(p:Value)(S:List Ty)(x:PT)(hx:Sf w0 x)(t:List UInt8)(w:World)(hw:Below w0 w0 w)(hb:w0.heap.size<=b)(bad:Bool)(h:Fg w b p t bad)(hl:t.length<=900)(hN:bad=false->t.length<=N)(hN2:N<=2000)
  (htg:∀f∈x.ty.fields,f.tag<=200) (H:∀f∈x.ty.fields,IvC w0 b p S N f.kind) (q:Option ((Fd × Vl) × List UInt8)) (hq:q=if bad then none else Cp (Ai S 1000 N) x.ty.fields t):
  Calls prog 176 #[b,x.blk] w (Qg6 w0 w b p t N x.ty.fields q):=by
 have HQ:=Aa (hq.trans (by rw[Qb8]));have Hnl:=Aa (Qfv t);have HS:=Aa h;have HW:=Aa hw;have hb0:=h.1;have hbn:¬(b=w.heap.size):=aG;have hnn:=Vu t;have hdr:=Vy Az t;have Hn:=Aa (fun W (h:Fg W b p t bad)=>Nb b 200 p t bad W h aG aJ);have Hf:=Aa (fun W (hW:Below w0 w0 W)=>Sn w0 x hx (Ge t) W hW aG);have hxb:x.blk<w0.heap.size:=hx.1;clear h hw hq;obtain⟨b1,hb1⟩:∃b1,b1=(bad || !Fq 200 t):=⟨_,rfl⟩
 have Hb1:=Aa hb1;rw[<-hb1]at Hn;generalize t.dropWhile Az=t1 at *;have hm:=D3 61 t1 b1;have Hwt:=Aa (fun W (h:Fg W b p t1 b1)=>Cz b p t1 [61] b1 W h aG);have Hlt0:=Aa (fun r (h:Aw [61] t1 b1=some r)=>Gy h);clear hb1;cases hfo:Bu x.ty.fields (Ge t)with
 |none=>
  rw[hfo]at Hf HQ;have hq0:=@Aa (q=none) (by have:=HQ.o;cases bad<;>simpa using this);generalize Ge t=n at *;generalize (Aw [61] t1 b1).getD t1=t2 at *;generalize (Aw [61] t1 b1).isNone=b2 at *;clear hfo HQ Hnl;go_enter func176,ntmps176;go_wp2_with fail;have F0:=@Aa (Nk w b p w.heap.size t bad (w.alloc (.cells #[.int .u8 0,a8,.int .i64 0,.slice none 0 0] 47))) ⟨⟨HS.o.grow ((Au _ _).alloc (Ap _) _),Cn ((Au _ _).alloc (Ap _) _) _⟩,Cx w [.int .u8 0,a8,.int .i64 0,.slice none 0 0] _,Ap _,by simp⟩;refine(Hn.o _ F0.o.1.1).mono ?_;rintro e w2 ⟨rfl,hs2⟩;have F2:=Aa (F0.o.step hb0 hs2);clear hs2;go_wp2_with fail;refine(Hf.o _ (F2.o.1.env HW.o hb)).mono ?_;rintro e w3 ⟨fp,rfl,hfp,rfl⟩;have hfp':fp=.pointer none:=hfp;subst hfp';go_wp2_with fail;refine(Hwt.o _ F2.o.1.1).mono ?_;rintro e w4 ⟨rfl,hs4⟩;have F4:=Aa (F2.o.step hb0 hs4);clear hs4;have sb:=F4.o.1.1.2.1.live 2;have s0:=F4.o.1.1.1;have s2:=F4.o.1.1.2.2.2.2;have F5:=Aa (F4.o.step hb0 ⟨F4.o.1.1.setBad true,Bb _ b 2 (.bool true)⟩);go_wp2_with ((with_reducible refine Ad (op:=⟨none,.store 47 _ _,_,_,_,none⟩) rfl 47 _ _ rfl w 0 [.int .u8 0,a8,.int .i64 0,.slice none 0 0] ?_ ?_ ?_ ?_ ?_ ?_);rfl;rfl;(exact F5.o.2.1);kernel_rfl;(simp[Value.oneCell']);intro w9 HS9)
  have Z:=Nk.fin (v:=E3) (sl:=.slice none 0 0) F5.o hb0 HS9.o (Eb.nil _ _);refine aE (v:=.tuple #[.agg (Gf E3 (.slice none 0 0)).toArray,.pointer none]) (Ao results176 _ _ w.heap.size _ _ _ rfl rfl Z.2.2 underlying47 rfl aM) rfl ?_;exact⟨E3,.slice none 0 0,.pointer none,t2,rfl,Z.1,by rw[hq0.o];exact Z.2.1,D9 aJ aJ,by omega,by simp[E3,Bg,D2,G1];omega,.inl ⟨rfl,hq0.o⟩⟩
 |some g=>
  obtain⟨hgt,hgm⟩:=Bn hfo;have hg2:=htg g hgm;have Hfg:=Aa (show Bu x.ty.fields g.tag=some g by rw[hgt];exact hfo);rw[hfo]at Hf HQ;simp only at HQ;have HH:=Aa (H g hgm);cases hc:Aw [61] t1 b1 with
  |none=>
   have hq0:=Aa (show q=none from by
    rw[HQ.o];cases bad with
    |true=>rfl
    |false=>rw[if_neg aJ];rw[show Aw [61] t1 (!Fq 200 t)=none by have:=Hb1.o;rw[Bool.false_or]at this;rw[<-this];exact hc])
   rw[hc]at Hwt;simp only[Option.isNone_none,Option.getD_none]at Hwt;generalize Ge t=n at *;clear hfo HQ Hnl hc hm;subst hgt;obtain⟨b2,hb2⟩:∃b2,b2=true:=⟨_,rfl⟩
   rw[<-hb2]at Hwt;go_enter func176,ntmps176;go_wp2_with fail;have F0:=@Aa (Nk w b p w.heap.size t bad (w.alloc (.cells #[.int .u8 0,a8,.int .i64 0,.slice none 0 0] 47))) ⟨⟨HS.o.grow ((Au _ _).alloc (Ap _) _),Cn ((Au _ _).alloc (Ap _) _) _⟩,Cx w [.int .u8 0,a8,.int .i64 0,.slice none 0 0] _,Ap _,by simp⟩;refine(Hn.o _ F0.o.1.1).mono ?_;rintro e w2 ⟨rfl,hs2⟩;have F2:=Aa (F0.o.step hb0 hs2);clear hs2;go_wp2_with fail;refine(Hf.o _ (F2.o.1.env HW.o hb)).mono ?_;rintro e w3 ⟨fp,rfl,hfp,rfl⟩;obtain⟨fb,fo,rfl,hfb,hfr⟩:=hfp;go_wp2_with fail;refine(Hwt.o _ F2.o.1.1).mono ?_;rintro e w4 ⟨rfl,hs4⟩;have F4:=Aa (F2.o.step hb0 hs4);clear hs4;have sb:=F4.o.1.1.2.1.live 2;have s0:=F4.o.1.1.1;have s2:=F4.o.1.1.2.2.2.2;have F5:=Aa (F4.o.step hb0 ⟨F4.o.1.1.setBad true,Bb _ b 2 (.bool true)⟩);subst hb2;go_wp2_with ((with_reducible refine Ad (op:=⟨none,.store 47 _ _,_,_,_,none⟩) rfl 47 _ _ rfl w 0 [.int .u8 0,a8,.int .i64 0,.slice none 0 0] ?_ ?_ ?_ ?_ ?_ ?_);rfl;rfl;(exact F5.o.2.1);kernel_rfl;(simp[Value.oneCell']);intro w9 HS9)
   have Z:=Nk.fin (v:=E3) (sl:=.slice none 0 0) F5.o hb0 HS9.o (Eb.nil _ _);refine aE (v:=.tuple #[.agg (Gf E3 (.slice none 0 0)).toArray,.pointer none]) (Ao results176 _ _ w.heap.size _ _ _ rfl rfl Z.2.2 underlying47 rfl aM) rfl ?_;exact⟨E3,.slice none 0 0,.pointer none,t1,rfl,Z.1,by rw[hq0.o];exact Z.2.1,D9 aJ aJ,by omega,by simp[E3,Bg,D2,G1];omega,.inl ⟨rfl,hq0.o⟩⟩
  |some t2=>
   have hlt:=Hlt0.o t2 hc;have hbb:bad=false/\b1=false/\Fq 200 t=true:=by
    have h1:b1=false:=by
     cases b1 with
     |false=>rfl
     |true=>rw[Bz]at hc;simp at hc
    have h2:=Hb1.o;rw[h1]at h2;cases bad<;>cases hnb:Fq 200 t<;>simp[hnb]at h2 ⊢
    exact h1
   obtain⟨rfl,rfl,hnb⟩:=hbb;have hnl:=Hnl.o hnb;rw[hgt.symm]at hnl
   have hq0:=Aa (show q=(match Ai S 1000 N g.kind t2 with|some (v,z)=>some ((g,v),z)|none=>none)from by
    rw[HQ.o,if_neg aJ,hnb];show (match Aw [61] t1 false with|none=>none|some q=>match Ai S 1000 N g.kind q with|some (v,z)=>some ((g,v),z)|none=>none)=_;rw[hc])
   rw[hc]at Hwt;simp only[Option.isNone_some,Option.getD_some]at Hwt;have h2N:t2.length<N:=by have:=hN rfl;omega
   generalize Ge t=n at *;clear hfo HQ Hnl hc hm Hb1 hnb Hlt0;subst hgt;go_enter func176,ntmps176;go_wp2_with fail;have F0:=@Aa (Nk w b p w.heap.size t false (w.alloc (.cells #[.int .u8 0,a8,.int .i64 0,.slice none 0 0] 47))) ⟨⟨HS.o.grow ((Au _ _).alloc (Ap _) _),Cn ((Au _ _).alloc (Ap _) _) _⟩,Cx w [.int .u8 0,a8,.int .i64 0,.slice none 0 0] _,Ap _,by simp⟩;refine(Hn.o _ F0.o.1.1).mono ?_;rintro e w2 ⟨rfl,hs2⟩;have F2:=Aa (F0.o.step hb0 hs2);clear hs2;go_wp2_with fail;refine(Hf.o _ (F2.o.1.env HW.o hb)).mono ?_;rintro e w3 ⟨fp,rfl,hfp,rfl⟩;obtain⟨fb,fo,rfl,hfb,hfr⟩:=hfp;go_wp2_with fail;refine(Hwt.o _ F2.o.1.1).mono ?_;rintro e w4 ⟨rfl,hs4⟩;have F4:=Aa (F2.o.step hb0 hs4);clear hs4;have HFR:=@Aa (Gp w0.heap.size w4 (.pointer (some ⟨fb,fo,none⟩)) (some g)) (Gp.via ⟨fb,fo,rfl,hfb,hfr⟩ (F2.o.1.env HW.o hb) (F4.o.1.env HW.o hb));have G4:=@Aa (w4.rangeAt fb fo (Rk g)) (by obtain⟨a1,a2,a3,_,a5⟩:=HFR.o;injection a3 with a3;injection a3 with a3;injection a3 with a3 a4;subst a3 a4;exact a5);have s2:=F4.o.1.1.2.2.2.2;have g2:=Ac G4.o 2 rfl;have g3:=Ac G4.o 3 rfl;have g4:=Ac G4.o 4 rfl;have g3':w4.cell? ⟨fb,fo+2+1,none⟩=g.kind.base:=g3;have g4':w4.cell? ⟨fb,fo+2+1+1,none⟩=g.kind.name:=g4;have g4'':w4.cell? ⟨fb,fo+2+2,none⟩=g.kind.name:=g4;clear hfr;have HV:=Aa (fun W (h1:Below w0 w0 W) (h2:Fg W b p t2 false)=>HH.o t2 false W h1 h2 aG (fun _=>h2N));unfold Jv at HV;simp only[an,if_false]at HV;go_wp2_with fail;refine(HV.o _ (F4.o.1.env HW.o hb) F4.o.1.1).mono ?_;rintro e w5 ⟨v,sl,t',rfl,hk5,hs5,hx5,hB5,hl5,hn5⟩;obtain⟨A7,c7,rfl⟩:=hk5.form;have F5:=Aa (F4.o.step hb0 hs5);have Hk5:=Aa hk5;have Hx5:=Aa hx5;have HB5:=Aa hB5;have hz4:=F4.o.2.2.2;clear hs5 hk5 hx5 hB5 g2 g3 g4 g3' g4' g4'' s2;unfold Kc;go_wp2_with fail;obtain⟨W6,hW6⟩:∃W6,W6=w5.alloc (.cells #[.int .u8 (v.what.toNat:Int),v.text,(v.tag:Int),.slice A7 v.kids.length c7] 47):=⟨_,rfl⟩
   rw[<-hW6];have hb6:Below w5 w5 W6:=by rw[hW6];exact(Au _ _).alloc (Ap _) _
   have F6:=Aa (F5.o.post hb6);have HP6:=Aa (HFR.o.via (F4.o.1.env HW.o hb) (F6.o.1.env HW.o hb));have X6:=@Aa (W6.rangeAt w5 0 [.int .u8 (v.what.toNat:Int),v.text,(v.tag:Int),.slice A7 v.kids.length c7]) (by rw[hW6];exact Ch w5 [.int .u8 (v.what.toNat:Int),v.text,(v.tag:Int),.slice A7 v.kids.length c7] _);have Hk6:=Aa (Hk5.o.after hb6);have hz6:w5.heap.size<W6.heap.size:=by rw[hW6];simp
   have HW6:=Aa (F6.o.1.env HW.o hb);have hz5:=F5.o.2.2.2;generalize w5.heap.size=B7 at *;clear hW6 hb6;have D0:=@Aa (W6.cell? ⟨fb,fo,none⟩=(g.tag:Int)) (by obtain⟨a1,a2,a3,_,a5⟩:=HP6.o;injection a3 with a3;injection a3 with a3;injection a3 with a3 a4;subst a3 a4;simpa using Ac a5 0 rfl);refine Bc [32,33,34,35,36,37,38,39,999,5] aM aM aM (fun u=>by dsimp only[Br,Bh,List.set,am,Nat.reduceAdd])
    (fun ix u W=>match ix with|0=>u=.pointer (some ⟨fb,fo,none⟩)|1=>u=.pointer (some ⟨fb,fo,none⟩)|2=>u=.pointer (some ⟨fb,fo,none⟩)|3=>u=(g.tag:Int)|4=>u=.agg #[.int .u8 (v.what.toNat:Int),v.text,(v.tag:Int),.slice A7 v.kids.length c7]|5=>∃c,u=.slice (some ⟨c,0,none⟩) 1 1|6=>∃c,u=.agg #[.int .u8 61,a8,(g.tag:Int),.slice (some ⟨c,0,none⟩) 1 1]|7=>u=.pointer (some ⟨fb,fo,none⟩)|9=>u=.pointer (some ⟨fb,fo,none⟩)|_=>True)
    (fun L U W=>(L 8=false->Below W6 W6 W)/\(L 5=true->L 8=false->∃W7,W=W7.alloc (.cells (Np (v,.slice A7 v.kids.length c7)).toArray 47)/\U 5=.slice (some ⟨W7.heap.size,0,none⟩) 1 1/\Below W6 W6 W7)/\(L 6=true->U 6=.agg #[.int .u8 61,a8,(g.tag:Int),U 5]) /\
  (L 8=true->∃W7,W=(W7.alloc (.cells (Np (v,.slice A7 v.kids.length c7)).toArray 47)).setCells w 0 [.int .u8 61,a8,(g.tag:Int),.slice (some ⟨W7.heap.size,0,none⟩) 1 1]/\Below W6 W6 W7)) (fun _ _=>True) (fun _ _ _ _ _ h=>h) (⟨fun _=>(Au _ _).drew,fun h=>Bool.noConfusion h,fun h=>Bool.noConfusion h,fun h=>Bool.noConfusion h⟩) ?_ ?_
   ·repeat (first|exact Ar.nil|(refine Ar.cons ?_ ?_;rotate_left))
    all_goals
     rintro L U W hL hpre hR hun hdep K hK;have HR:=Aa hR;obtain⟨R1,R2,R3,R4⟩:=HR.o;have Hdep:=Aa hdep;clear hun hdep hR;first|(simp[Region.binds]at hpre;done)|simp[Region.binds]at hpre|clear hpre
    iterate 3
     ·exact eT
    ·have h6:L 6=false:=Bx Hdep.o 6 3 rfl hL;have h8:L 8=false:=Bx Hdep.o 8 6 rfl h6;have m0:=((R1 h8).cell (p:=⟨fb,fo,none⟩) (by have:=HW6.o.size;show fb<_;omega)).trans D0.o;exact ib
    ·have h5:L 5=false:=Bx Hdep.o 5 4 rfl hL;have h6:L 6=false:=Bx Hdep.o 6 5 rfl h5;have h8:L 8=false:=Bx Hdep.o 8 6 rfl h6;have m0:=((R1 h8).cell (p:=⟨B7,0,none⟩) hz6).trans (X6.o 0 _ rfl);have m1:=((R1 h8).cell (p:=⟨B7,1,none⟩) hz6).trans (X6.o 1 _ rfl);have m2:=((R1 h8).cell (p:=⟨B7,2,none⟩) hz6).trans (X6.o 2 _ rfl);have m3:=((R1 h8).cell (p:=⟨B7,3,none⟩) hz6).trans (X6.o 3 _ rfl);exact ib
    ·have h6:L 6=false:=Bx Hdep.o 6 5 rfl hL;have h8:L 8=false:=Bx Hdep.o 8 6 rfl h6;have hba:Below W W (W.alloc (.cells (Np (v,.slice A7 v.kids.length c7)).toArray 47)):=(Au _ _).alloc (Ap _) _;have u4:=hpre.2;go_simp;exact hK (.slice (W,0) 1 1) _ _ ⟨W.heap.size,rfl⟩ Ab ⟨fun _=>(R1 h8).trans (hba.mono (R1 h8).size),fun _ _=>⟨W,rfl,rfl,R1 h8⟩,fun h=>absurd (h6.symm.trans bg) aJ,fun h=>absurd (h8.symm.trans bg) aJ⟩ aH
    ·obtain⟨c,u5⟩:=hpre.2.2;have u3:=hpre.1.2;go_simp;exact hK (.agg #[.int .u8 61,a8,(g.tag:Int),U 5]) _ _ ⟨c,by rw[u5]⟩ Ab ⟨R1,R2,fun _=>rfl,fun h=>R4 bg⟩ (by simp[Act.put,u3,u5])
    ·exact eT
    ·obtain⟨⟨l6,_⟩,_⟩:=hpre;have u6:=R3 l6;have l5:L 5=true:=by
      cases h5:L 5 with
      |true=>rfl
      |false=>exact absurd (l6.symm.trans (Bx Hdep.o 6 5 rfl h5)) aJ
     obtain⟨W7,rfl,u5,hb7⟩:=R2 l5 hL;rw[u5]at u6;rw[if_pos du];refine wp_store_mid 47 _ _ rfl w 0 ([.int .u8 61,a8,(g.tag:Int),.slice (some ⟨W7.heap.size,0,none⟩) 1 1]:List Value).toArray rfl u6 ((F6.o.post hb7).post ((Au _ _).alloc (Ap _) _)).2.1 aM bU ?_;exact hK undef _ _ Ab Ab ⟨fun h=>by simp at h,fun _ h=>by simp at h,fun _=>by show U 6=.agg #[.int .u8 61,a8,(g.tag:Int),U 5];rw[u5];exact u6,fun _=>⟨W7,rfl,hb7⟩⟩ rfl
    ·clear R1 R2 R3 R4;go_simp;exact hK (.pointer (some ⟨fb,fo,none⟩)) _ _ rfl Ab HR.o aH
   rintro L U W hL hφ hR;have hφ9:=hφ 9 aJ;clear hφ;have e9:U 9=.pointer (some ⟨fb,fo,none⟩):=hφ9;obtain⟨_,_,_,h4⟩:=hR;obtain⟨W7,rfl,hb7⟩:=h4 (hL 8 aJ);clear hL h4;simp only[e9];clear hφ9;go_wp2_with fail;have F7:=Aa (F6.o.post hb7);have Hk7:=Aa (Hk6.o.after hb7);have hz7:=F7.o.2.2.2;have Z:=Nk.fin (v:=Do (g,v)) (sl:=.slice (some ⟨W7.heap.size,0,none⟩) 1 1) (F7.o.post ((Au _ _).alloc (Ap _) (.cells (Np (v,.slice A7 v.kids.length c7)).toArray 47))) hb0 rfl (Hk7.o.one (T:=47) (fun c hc _=>by omega) aG);have HPz:=HP6.o.via (F6.o.1.env HW.o hb) (Z.2.1.env HW.o hb);refine aE (v:=.tuple #[.agg (Gf (Do (g,v)) (.slice (some ⟨W7.heap.size,0,none⟩) 1 1)).toArray,.pointer (some ⟨fb,fo,none⟩)]) (Ao results176 _ _ w.heap.size _ _ _ rfl rfl Z.2.2 underlying47 rfl aM) rfl ?_;have hx9:=Hx5.o;refine⟨Do (g,v),_,_,t',rfl,Z.1,?_,.mk (show g.tag<=1000000000 by omega) (by simp[Df];omega) aK (fun y hy=>by rw[ap]at hy;subst hy;exact HB5.o),by omega,by rw[Rq];simp only;omega,.inr ⟨g,v,HPz,rfl,Hfg.o,HB5.o,?_⟩⟩
   ·have e:q.isNone=(Ai S 1000 N g.kind t2).isNone:=by rw[hq0.o];cases Ai S 1000 N g.kind t2<;>rfl
    rw[e];exact Z.2.1
   intro y hy;rw[hq0.o]at hy;cases hr:Ai S 1000 N g.kind t2 with
   |none=>rw[hr]at hy;cases hy
   |some z=>
    obtain⟨z1,z2⟩:=z;rw[hr]at hy;simp only[aj]at hy;obtain⟨e1,e2⟩:=hx9 _ hr;simp only at e1 e2;rw[<-hy,e1,e2]
structure Vb(B:Nat)(W:World)(h0 h1 h2 h3:Value):Prop where
 lt:B<W.heap.size
 bk:Ny W B
 c0:W.cell? (B,0)=some h0
 c1:W.cell? (B,1)=some h1
 c2:W.cell? (B,2)=some h2
 c3:W.cell? (B,3)=some h3
theorem Vb.new{w:World}{h0 h1 h2 h3:Value}{T:TypeId}:Vb w.heap.size (w.alloc (.cells #[h0,h1,h2,h3] T)) h0 h1 h2 h3:=⟨by simp,Ny.new _ _ _,by simp,by simp,by simp,by simp⟩
theorem Vb.grown{B:Nat}{W W':World}{h0 h1 h2 h3:Value}{row:Option Nat}(h:Vb B W h0 h1 h2 h3)(hg:W.grownBy W' row)(hn:some B≠row):Vb B W' h0 h1 h2 h3:=
 ⟨ac h.lt hg.size,h.bk.grown h.lt hg hn,hg.cell h.c0 hn,hg.cell h.c1 hn,hg.cell h.c2 hn,hg.cell h.c3 hn⟩
theorem Vb.after{B:Nat}{W W':World}{h0 h1 h2 h3:Value}(h:Vb B W h0 h1 h2 h3)(hb:Below W W W'):Vb B W' h0 h1 h2 h3:=h.grown (Cn hb none) aK
theorem Vb.set2{B:Nat}{W:World}{h0 h1 h2 h3:Value}(h:Vb B W h0 h1 h2 h3)(v:Value):Vb B (W.setCell ⟨B,2,none⟩ v) h0 h1 v h3:=by
 have hf:=h.bk.live 2;exact⟨by simpa using h.lt,h.bk.set _,by simp[go_sem,h.c0],by simp[go_sem,h.c1],by simp[go_sem,h.c2,hf],by simp[go_sem,h.c3]⟩
theorem Vb.set3{B:Nat}{W:World}{h0 h1 h2 h3:Value}(h:Vb B W h0 h1 h2 h3)(v:Value):Vb B (W.setCell ⟨B,3,none⟩ v) h0 h1 h2 v:=by
 have hf:=h.bk.live 3;exact⟨by simpa using h.lt,h.bk.set _,by simp[go_sem,h.c0],by simp[go_sem,h.c1],by simp[go_sem,h.c2],by simp[go_sem,h.c3,hf]⟩
theorem Nk.init{w:World}{b:Nat}{p:Value}{t:List UInt8}{bad:Bool}(h:Fg w b p t bad){T:TypeId}:Nk w b p w.heap.size t bad (w.alloc (.cells #[.int .u8 0,a8,.int .i64 0,.slice none 0 0] T)):=
 ⟨⟨h.grow ((Au _ _).alloc (Ap _) _),Cn ((Au _ _).alloc (Ap _) _) _⟩,Cx w [.int .u8 0,a8,.int .i64 0,.slice none 0 0] _,Ap _,by simp⟩
theorem Qf5(fs:List Fd)(t:List UInt8)(t1 t2:List UInt8)(b1 b2:Bool)(h1:t1=(Aw [35] t false).getD t)(hb1:b1=(Aw [35] t false).isNone)(h2:t2=t1.dropWhile Az)(hb2:b2=(b1 || !Fq 200 t1)):
  (match Am 35 t with
   |none=>none
   |some r=>match E7 fs r with|some (f,q)=>some (Vl.mk 69 [] f.tag [],q)|none=>none)=if b2 || (Bu fs (Ge t1)).isNone then none else some (.mk 69 [] (Ge t1) [],t2):=by
 rw[Bz]at h1 hb1;simp only[an,if_false]at h1 hb1;cases hy:Am 35 t with
 |none=>rw[hy]at hb1;simp at hb1;subst hb1 hb2;simp
 |some r=>
  rw[hy]at h1 hb1;simp at h1 hb1;subst h1 hb1 h2 hb2;simp only[Yv];cases Fq 200 t1 with
  |false=>simp
  |true=>
   simp only[if_true,Bool.false_or,Bool.not_true];cases hf:Bu fs (Ge t1)with
   |none=>simp
   |some f=>have:=(Bn hf).1;simp[this]
theorem Qd3(w0:World)(b N:Nat)(p:Value)(S:List Ty)(x:PT)(hx:Sf w0 x)(h9:x.ty.sort=69)(t:List UInt8)(w:World)(hw:Below w0 w0 w)(hb:w0.heap.size<=b)(h:Fg w b p t false)(hl:t.length<=900)
  (q:Option (Vl × List UInt8)) (hq:q=G8 S (Ai S 1000 N) x.ty t):
  Calls prog 145 #[b,x.blk] w (Jh w b p t (N+1) q):=by
 have HQ:=Aa (hq.trans (by unfold G8;rw[if_pos h9]));have HS:=Aa h;have HW:=Aa hw;have hb0:=h.1;have hx0:=hx.1;have x0:=(hw.cell (p:=⟨x.blk,0,none⟩) hx0).trans hx.2.2.1;have hxw:x.blk<w.heap.size:=ea;have hxn:¬(x.blk=w.heap.size):=ea;have hxn2:¬(x.blk=w.heap.size+1):=ea;rw[h9]at x0;have x0':w.cell? (x.blk,0)=some (.int .u8 69):=x0;clear x0;have hm:=D3 35 t false;have Hwt:=Aa (fun W (h:Fg W b p t false)=>Cz b p t [35] false W h aG);obtain⟨t1,ht1⟩:∃t1,t1=(Aw [35] t false).getD t:=⟨_,rfl⟩
 obtain⟨b1,hb1⟩:∃b1,b1=(Aw [35] t false).isNone:=⟨_,rfl⟩
 have HQ2:=Aa (HQ.o.trans (Qf5 x.ty.fields t t1 (t1.dropWhile Az) b1 (b1 || !Fq 200 t1) ht1 hb1 rfl rfl));rw[<-ht1]at hm;rw[<-ht1,<-hb1]at Hwt;have Hn:=Aa (fun W (h:Fg W b p t1 b1)=>Nb b 200 p t1 b1 W h aG aJ);have hnn:=Vu t1;have hdr:=Vy Az t1;have Hf:=Aa (fun W (hW:Below w0 w0 W)=>Sn w0 x hx (Ge t1) W hW aG);have hdl:=C0 5 (Ge t1) cu;generalize (b1 || !Fq 200 t1)=b2 at *;generalize t1.dropWhile Az=t2 at *;generalize Ge t1=n at *;clear ht1 hb1 h hw hq h9 HQ;go_enter func145,ntmps145;go_wp2_with fail;have F1:=Aa ((Nk.init HS.o (T:=47)).post ((Au _ _).alloc (Ap _) (.cells #[.int .u8 69,a8,.int .i64 0,.slice none 0 0] 47)));have V1:=@Aa (Vb (w.heap.size+1) _ _ _ _ _) (by have:=Vb.new (w:=w.alloc (.cells #[.int .u8 0,a8,.int .i64 0,.slice none 0 0] 47)) (h0:=.int .u8 69) (h1:=a8) (h2:=.int .i64 0) (h3:=.slice none 0 0) (T:=47);simpa using this);refine(Hwt.o _ F1.o.1.1).mono ?_;rintro e w2 ⟨rfl,hs2⟩;have F2:=Aa (F1.o.step hb0 hs2);have V2:=Aa (V1.o.grown hs2.2 aN);clear hs2 F1 V1;go_wp2_with fail;refine(Hn.o _ F2.o.1.1).mono ?_;rintro e w3 ⟨rfl,hs3⟩;have F3:=Aa (F2.o.step hb0 hs3);have V3:=Aa (V2.o.grown hs3.2 aN);clear hs3 F2 V2;have c2:=V3.o.c2;have f2:=V3.o.bk.live 2;have l2:=V3.o.lt;go_wp2_with fail;have F4:=Aa (F3.o.app hb0 (Bb w3 (w.heap.size+1) 2 (n:Int)) (fun k e=>by injection e with e;omega));have V4:=Aa (V3.o.set2 (n:Int));refine(Hf.o _ (F4.o.1.env HW.o hb)).mono ?_;rintro e w4 ⟨fp,rfl,hfp,rfl⟩;cases hfo:Bu x.ty.fields n with
 |some g=>
  rw[hfo]at hfp HQ2;obtain⟨fb,fo,rfl,_,_⟩:=hfp;have d0:=V4.o.c0;have d1:=V4.o.c1;have d2:=V4.o.c2;have d3:=V4.o.c3;clear hfo c2 f2 l2;generalize w3.setCell ⟨w.heap.size+1,2,none⟩ (n:Int)=w4 at *;go_wp2_with ((with_reducible refine Ad (op:=⟨none,.store 47 _ _,_,_,_,none⟩) rfl 47 _ _ rfl w 0 [.int .u8 69,a8,(n:Int),.slice none 0 0] ?_ ?_ ?_ ?_ ?_ ?_);rfl;rfl;(exact F4.o.2.1);kernel_rfl;(simp[Value.oneCell']);intro w9 HS9)
  have Z:=Nk.fin (v:=.mk 69 [] n []) (sl:=.slice none 0 0) F4.o hb0 HS9.o (Eb.nil _ _);refine aE (v:=.agg (Gf (.mk 69 [] n []) (.slice none 0 0)).toArray) (Ay results145 _ _ w.heap.size _ _ rfl Z.2.2 underlying47 rfl aM) rfl ⟨.mk 69 [] n [],_,t2,rfl,Z.1,?_,?_,D9 aG aJ,by omega,by simp[Bg,D2,G1];omega⟩
  ·rw[HQ2.o];cases b2<;>exact Z.2.1
  rw[HQ2.o];cases b2<;>simp
 |none=>
  rw[hfo]at hfp HQ2;have hfp':fp=.pointer none:=hfp;subst hfp';have s2:=F4.o.1.1.2.2.2.2;have sb:=F4.o.1.1.2.1.live 2;have s0:=F4.o.1.1.1;clear hfo c2 f2 l2;generalize w3.setCell ⟨w.heap.size+1,2,none⟩ (n:Int)=w4 at *;have F5:=Aa (F4.o.step hb0 ⟨F4.o.1.1.setBad true,Bb _ b 2 (.bool true)⟩);have V5:=Aa (V4.o.grown (Bb w4 b 2 (.bool true)) aN);have d0:=V5.o.c0;have d1:=V5.o.c1;have d2:=V5.o.c2;have d3:=V5.o.c3;go_wp2_with ((with_reducible refine Ad (op:=⟨none,.store 47 _ _,_,_,_,none⟩) rfl 47 _ _ rfl w 0 [.int .u8 69,a8,(n:Int),.slice none 0 0] ?_ ?_ ?_ ?_ ?_ ?_);rfl;rfl;(exact F5.o.2.1);kernel_rfl;(simp[Value.oneCell']);intro w9 HS9)
  have Z:=Nk.fin (v:=.mk 69 [] n []) (sl:=.slice none 0 0) F5.o hb0 HS9.o (Eb.nil _ _);refine aE (v:=.agg (Gf (.mk 69 [] n []) (.slice none 0 0)).toArray) (Ay results145 _ _ w.heap.size _ _ rfl Z.2.2 underlying47 rfl aM) rfl ⟨.mk 69 [] n [],_,t2,rfl,Z.1,?_,?_,D9 aG aJ,by omega,by simp[Bg,D2,G1];omega⟩
  ·rw[HQ2.o];simpa using Z.2.1
  rw[HQ2.o];simp
def Qe8(q1:Option ((Fd × Vl) × List UInt8))(t2:List UInt8):Option (Vl × List UInt8):=match q1 with
 |none=>none
 |some (p,_)=>if (Aw [62] t2 false).isNone then none else some (.mk 85 [] p.1.tag [p.2],(Aw [62] t2 false).getD t2)
theorem Qgi(K:Kd->List UInt8->Option (Vl × List UInt8))(fs:List Fd)(t t1 t2:List UInt8)(b1:Bool)(q1:Option ((Fd × Vl) × List UInt8))(h1:t1=(Aw [60] t false).getD t)(hb1:b1=(Aw [60] t false).isNone)(h2:q1=if b1 then none else Cp K fs t1)(h3:∀y,q1=some y->t2=y.2):
  (match Am 60 t with
   |none=>none
   |some r=>match Cp K fs r with
    |none=>none
    |some (p,q)=>match Am 62 q with|some z=>some (Vl.mk 85 [] p.1.tag [p.2],z)|none=>none) =
  Qe8 q1 t2:=by
 rw[Bz]at h1 hb1;simp only[an,if_false]at h1 hb1;cases hy:Am 60 t with
 |none=>rw[hy]at hb1;simp at hb1;subst hb1;simp at h2;subst h2;simp[Qe8]
 |some r=>
  rw[hy]at h1 hb1;simp at h1 hb1;subst h1 hb1;simp only[an,if_false]at h2;subst h2;simp only;cases hk:Cp K fs t1 with
  |none=>simp[Qe8]
  |some y=>
   obtain⟨p,q⟩:=y;obtain rfl:=h3 _ hk;simp only[Qe8,Bz,an,if_false];cases Am 62 t2<;>simp
structure Xz(w0 w:World)(b B X:Nat)(p:Value)(t:List UInt8)(bad:Bool)(g:Fd)(x:Vl)(fp:Value)(sl h2 h3:Value)(W:World):Prop where
 f:Nk w b p w.heap.size t bad W
 v:Vb B W (.int .u8 85) a8 h2 h3
 xr:W.rangeAt X 0 [.int .u8 61,a8,(g.tag:Int),sl]
 k:Eb (fun c=>B<c) W sl [x]
 p:Gp w0.heap.size W fp (some g)
 lw:Below w0 w0 W
theorem Xz.put{w0 w W:World}{b B X o:Nat}{p:Value}{t:List UInt8}{bad:Bool}{g:Fd}{x:Vl}{fp sl h2 h3 h2' h3':Value}(h:Xz w0 w b B X p t bad g x fp sl h2 h3 W)(u:Value)(hV:Vb B (W.setCell ⟨B,o,none⟩ u) (.int .u8 85) a8 h2' h3')
  (hb:b<w.heap.size) (hB:w.heap.size<B) (hX:B<X) (h0:w0.heap.size<=w.heap.size):Xz w0 w b B X p t bad g x fp sl h2' h3' (W.setCell ⟨B,o,none⟩ u):=by
 have hg:=Bb W B o u;have hlw:Below w0 w0 (W.setCell ⟨B,o,none⟩ u):=h.lw.grown hg h.lw.size fun k hk=>by injection hk with hk;omega
 exact⟨h.f.app hb hg (fun k e=>by injection e with e;omega),hV,Fo h.xr hg bX,h.k.grown hg (fun c hc e=>by injection e with e;omega),h.p.via h.lw hlw,hlw⟩
theorem Xz.drew{w0 w W:World}{b B X:Nat}{p:Value}{t:List UInt8}{bad:Bool}{g:Fd}{x:Vl}{fp sl h2 h3:Value}(h:Xz w0 w b B X p t bad g x fp sl h2 h3 W):Xz w0 w b B X p t bad g x fp sl h2 h3 W.drew:=
 ⟨h.f.post (Au _ _).drew,h.v.after (Au _ _).drew,h.xr,h.k.after (Au _ _).drew,h.p.via h.lw h.lw.drew,h.lw.drew⟩
theorem Qd7(w0:World)(b N:Nat)(p:Value)(S:List Ty)(x:PT)(hx:Sf w0 x)(h5:x.ty.sort=85)(t:List UInt8)(w:World)(hw:Below w0 w0 w)(hb:w0.heap.size<=b)(h:Fg w b p t false)(hl:t.length<=900)(hN:t.length<=N)(hN2:N<=2000)
  (htg:∀f∈x.ty.fields,f.tag<=200) (H:∀f∈x.ty.fields,IvC w0 b p S N f.kind) (q:Option (Vl × List UInt8)) (hq:q=G8 S (Ai S 1000 N) x.ty t):
  Calls prog 145 #[b,x.blk] w (Jh w b p t (N+1) q):=by
 have HQ:=Aa (hq.trans (by unfold G8;rw[if_neg (by rw[h5];decide),if_pos h5]));have HS:=Aa h;have HW:=Aa hw;have hb0:=h.1;have hx0:=hx.1;have hww:=hw.size;have x0:=(hw.cell (p:=⟨x.blk,0,none⟩) hx0).trans hx.2.2.1;have hxw:x.blk<w.heap.size:=aG;have hxn:¬(x.blk=w.heap.size):=aG;have hxn2:¬(x.blk=w.heap.size+1):=aG;rw[h5]at x0;have x0':w.cell? (x.blk,0)=some (.int .u8 85):=x0;clear x0;have hm:=D3 60 t false;have Hwt:=Aa (fun W (h:Fg W b p t false)=>Cz b p t [60] false W h aG);obtain⟨t1,ht1⟩:∃t1,t1=(Aw [60] t false).getD t:=⟨_,rfl⟩
 obtain⟨b1,hb1⟩:∃b1,b1=(Aw [60] t false).isNone:=⟨_,rfl⟩
 obtain⟨q1,hq1⟩:∃q1,q1=if b1 then none else Cp (Ai S 1000 N) x.ty.fields t1:=⟨_,rfl⟩
 have HQ2:=Aa (fun t2 h3=>HQ.o.trans (Qgi (Ai S 1000 N) x.ty.fields t t1 t2 b1 q1 ht1 hb1 hq1 h3));rw[<-ht1]at hm;rw[<-ht1,<-hb1]at Hwt;have Hfd:=Aa (fun W (h1:Below w0 w0 W) (h2:Fg W b p t1 b1)=>X9 w0 b N p S x hx t1 W h1 hb b1 h2 aG (fun _=>by omega) hN2 htg H q1 hq1);clear ht1 hb1 h hw hq h5 HQ hq1 H;go_enter func145,ntmps145;go_wp2_with fail;have F1:=Aa ((Nk.init HS.o (T:=47)).post ((Au _ _).alloc (Ap _) (.cells #[.int .u8 85,a8,.int .i64 0,.slice none 0 0] 47)));have V1:=@Aa (Vb (w.heap.size+1) _ _ _ _ _) (by have:=Vb.new (w:=w.alloc (.cells #[.int .u8 0,a8,.int .i64 0,.slice none 0 0] 47)) (h0:=.int .u8 85) (h1:=a8) (h2:=.int .i64 0) (h3:=.slice none 0 0) (T:=47);simpa using this);refine(Hwt.o _ F1.o.1.1).mono ?_;rintro e w2 ⟨rfl,hs2⟩;have F2:=Aa (F1.o.step hb0 hs2);have V2:=Aa (V1.o.grown hs2.2 aN);have hz2:w.heap.size+2<=w2.heap.size:=by have:=hs2.2.size;simp at this;omega
 clear hs2 F1 V1;go_wp2_with fail;refine(Hfd.o _ (F2.o.1.env HW.o hb) F2.o.1.1).mono ?_;rintro e w3 ⟨v,sl,fp,t2,rfl,hk3,hs3,hB3,hl3,hn3,hcase⟩;obtain⟨A7,c7,rfl⟩:=hk3.form;have F3:=Aa (F2.o.step hb0 hs3);have V3:=Aa (V2.o.grown hs3.2 aN);have Hk3:=Aa hk3;have hz3:w2.heap.size<=w3.heap.size:=hs3.2.size;clear hs3 F2 V2 hk3;unfold Kc;have hm3:=D3 62 t2 q1.isNone;have Hwt2:=Aa (fun W (h:Fg W b p t2 q1.isNone)=>Cz b p t2 [62] q1.isNone W h aG);rcases hcase with⟨rfl,hq1⟩|⟨g,y,hfp,rfl,hfg,hBy,hy⟩
 ·have HQ3:=@Aa (q=none) (by rw[HQ2.o t2 (by rw[hq1];simp),hq1];rfl);have hw3:Aw [62] t2 q1.isNone=none:=by rw[hq1,Bz];rfl
  rw[hw3]at Hwt2;simp only[Option.getD_none,Option.isNone_none]at Hwt2;clear hq1 hw3 HQ2 hB3;go_wp2_with fail;have F4:=Aa (F3.o.post ((Au w3.heap.size w3).alloc (Ap _) (.cells #[.int .u8 (v.what.toNat:Int),v.text,(v.tag:Int),.slice A7 v.kids.length c7] 47)));have V4:=Aa (V3.o.after ((Au w3.heap.size w3).alloc (Ap _) (.cells #[.int .u8 (v.what.toNat:Int),v.text,(v.tag:Int),.slice A7 v.kids.length c7] 47)));refine(Hwt2.o _ F4.o.1.1).mono ?_;rintro e w5 ⟨rfl,hs5⟩;have F5:=Aa (F4.o.step hb0 hs5);have V5:=Aa (V4.o.grown hs5.2 aN);have d0:=V5.o.c0;have d1:=V5.o.c1;have d2:=V5.o.c2;have d3:=V5.o.c3;clear hs5 F4 V4;go_wp2_with ((with_reducible refine Ad (op:=⟨none,.store 47 _ _,_,_,_,none⟩) rfl 47 _ _ rfl w 0 [.int .u8 85,a8,.int .i64 0,.slice none 0 0] ?_ ?_ ?_ ?_ ?_ ?_);rfl;rfl;(exact F5.o.2.1);kernel_rfl;(simp[Value.oneCell']);intro w9 HS9)
  have Z:=Nk.fin (v:=.mk 85 [] 0 []) (sl:=.slice none 0 0) F5.o hb0 HS9.o (Eb.nil _ _);exact aE (v:=.agg (Gf (.mk 85 [] 0 []) (.slice none 0 0)).toArray) (Ay results145 _ _ w.heap.size _ _ rfl Z.2.2 underlying47 rfl aM) rfl ⟨.mk 85 [] 0 [],_,t2,rfl,Z.1,by rw[HQ3.o];exact Z.2.1,by rw[HQ3.o];simp,D9 aJ aJ,by omega,by simp[Bg,D2,G1,Aq,Dy];omega⟩
 have HQ3:=Aa (HQ2.o t2 (fun z hz=>by rw[hy z hz]));obtain⟨t4,ht4⟩:∃t4,t4=(Aw [62] t2 q1.isNone).getD t2:=⟨_,rfl⟩
 obtain⟨b4,hb4⟩:∃b4,b4=(Aw [62] t2 q1.isNone).isNone:=⟨_,rfl⟩
 rw[<-ht4,<-hb4]at Hwt2;rw[<-ht4]at hm3
 have HQ4:=Aa (show q=if b4 then none else some (.mk 85 [] g.tag [y],t4)from by
  rw[HQ3.o];cases hq1:q1 with
  |none=>rw[hq1,Bz]at hb4;simp at hb4;subst hb4;rfl
  |some z=>
   obtain⟨z1,z2⟩:=z;have:=hy _ hq1;injection this with e1 e2;subst e1;rw[hq1]at ht4 hb4;unfold Qe8;simp only;rw[ht4,hb4];rfl)
 have hpl:=Rq (g,y);obtain⟨fb,fo,rfl,hfb,hfr⟩:=hfp;have HP3:=@Aa (Gp w0.heap.size w3 (.pointer (some ⟨fb,fo,none⟩)) (some g)) ⟨fb,fo,rfl,hfb,hfr⟩;have hgt:=htg g (Bn hfg).2;have HBy:=Aa hBy;clear ht4 hb4 HQ2 HQ3 hB3 hfr hy hBy hfg;simp only[Do,Vl.what,Vl.text,Vl.tag,Vl.kids,List.length_singleton]at Hk3 hn3 ⊢;go_wp2_with fail;obtain⟨W4,hW4⟩:∃W4,W4=w3.alloc (.cells #[.int .u8 61,a8,(g.tag:Int),.slice A7 1 c7] 47):=⟨_,rfl⟩
 have hb4:Below w3 w3 W4:=by rw[hW4];exact(Au _ _).alloc (Ap _) _
 have X4:=@Aa (W4.rangeAt w3 0 [.int .u8 61,a8,(g.tag:Int),.slice A7 1 c7]) (by rw[hW4];exact Ch w3 [.int .u8 61,a8,(g.tag:Int),.slice A7 1 c7] _);have hz4:w3.heap.size<W4.heap.size:=by rw[hW4];simp
 have F4:=Aa (F3.o.post hb4);have V4:=Aa (V3.o.after hb4);have Hk4:=Aa (Hk3.o.after hb4);have HP4:=Aa (HP3.o.via (F3.o.1.env HW.o hb) (F4.o.1.env HW.o hb));have hW4':w3.alloc (.cells #[.int .u8 ((61:UInt8).toNat:Int),([]:List UInt8),(g.tag:Int),.slice A7 1 c7] 47)=W4:=hW4.symm;first|rw[<-hW4]|rw[hW4']
 generalize w3.heap.size=BX at *;clear hW4 hW4' hb4 F3 V3 Hk3 HP3;refine(Hwt2.o _ F4.o.1.1).mono ?_;rintro e w5 ⟨rfl,hs5⟩;have F5:=Aa (F4.o.step hb0 hs5);have V5:=Aa (V4.o.grown hs5.2 aN)
 have U5:=Aa (show Xz w0 w b (w.heap.size+1) BX p t4 b4 g y (.pointer (some ⟨fb,fo,none⟩)) (.slice A7 1 c7) (.int .i64 0) (.slice none 0 0) w5 from
  ⟨F5.o,V5.o,Fo X4.o hs5.2 aN,(Hk4.o.grown hs5.2 (fun c hc e=>by injection e with e;omega)).mono (fun c hc _=>by omega),HP4.o.via (F4.o.1.env HW.o hb) (F5.o.1.env HW.o hb),F5.o.1.env HW.o hb⟩)
 clear hs5 F4 V4 X4 Hk4 HP4;go_wp2_with fail;refine N4 [107,108,109,110,111,112,113,999,114,998]
  (fun ix v W=>match ix with|0=>v=.pointer (some ⟨fb,fo,none⟩)|1=>v=.pointer (some ⟨fb,fo,none⟩)|2=>v=.pointer (some ⟨fb,fo,none⟩)|3=>v=(g.tag:Int)|4=>v=(BX,3)|5=>v=.slice A7 1 c7|6=>v=(w,1,2)|8=>v=(w,1,3)|_=>True)
  (fun L U W=>Xz w0 w b (w.heap.size+1) BX p t4 b4 g y (.pointer (some ⟨fb,fo,none⟩)) (.slice A7 1 c7) (if L 7=true then (g.tag:Int)else .int .i64 0) (if L 9=true then .slice A7 1 c7 else .slice none 0 0) W) (by simpa using U5.o.drew) ?_ ?_
 ·repeat (first|exact Ar.nil|(refine Ar.cons ?_ ?_;rotate_left))
  all_goals
   rintro L U W hL hpre HR Hdep K hK;have hU:=HR.o;have m3:=hU.xr 3 _ rfl;simp only[am]at m3;have fb0:W.cell? ⟨fb,fo,none⟩=(g.tag:Int):=by obtain⟨a1,a2,a3,_,a5⟩:=hU.p;injection a3 with a3;injection a3 with a3;injection a3 with a3 a4;subst a3 a4;simpa using Ac a5 0 rfl
   first|(simp[Region.binds]at hpre;done)|simp[Region.binds]at hpre|clear hpre
  iterate 7
   ·exact eT
  ·have q2:=hU.v.c2;have qf:=hU.v.bk.live 2;have ql:=hU.v.lt;have hst:=hU.put (g.tag:Int) (hU.v.set2 _) hb0 aG aG hww;exact ie
  ·exact eT
  ·have q3:=hU.v.c3;have qf:=hU.v.bk.live 3;have ql:=hU.v.lt;have hst:=hU.put (.slice A7 1 c7) (hU.v.set3 _) hb0 aG aG hww;exact ie
 rintro L U W hL hφ hR;clear hφ;have hU:=hR;simp only[hL 7 aJ,hL 9 aJ,if_true]at hU;have U6:=Aa hU;have d0:=hU.v.c0;have d1:=hU.v.c1;have d2:=hU.v.c2;have d3:=hU.v.c3;clear hL hR hU;go_wp2_with ((with_reducible refine Ad (op:=⟨none,.store 47 _ _,_,_,_,none⟩) rfl 47 _ _ rfl w 0 [.int .u8 85,a8,(g.tag:Int),.slice A7 1 c7] ?_ ?_ ?_ ?_ ?_ ?_);rfl;rfl;(exact U6.o.f.2.1);kernel_rfl;(simp[Value.oneCell']);intro w9 HS9)
 have Z:=Nk.fin (v:=.mk 85 [] g.tag [y]) (sl:=.slice A7 1 c7) U6.o.f hb0 HS9.o (U6.o.k.mono fun c hc _=>by omega);have hpv:(Bg (.mk 85 [] g.tag [y])).length=(Bg (Do (g,y))).length+2:=by rw[Xn];simp
 have hn3':(Bg (Do (g,y))).length+t2.length<=t1.length+8*N:=hn3;exact aE (v:=.agg (Gf (.mk 85 [] g.tag [y]) (.slice A7 1 c7)).toArray) (Ay results145 _ _ w.heap.size _ _ rfl Z.2.2 underlying47 rfl aM) rfl ⟨.mk 85 [] g.tag [y],_,t4,rfl,Z.1,by rw[HQ4.o];cases b4<;>exact Z.2.1,by rw[HQ4.o];cases b4<;>simp,.mk aG (by simp only[Rq]at hn3';simp[Df];omega) aK (fun z hz=>by rw[ap]at hz;subst hz;exact HBy.o),by omega,by omega⟩
def Mr(ps:List (Fd × Vl)):Option (List (Fd × Vl) × List UInt8)->Option (List (Fd × Vl) × List UInt8)
 |some (us,z)=>some (ps++us,z)
 |none=>none
structure RI(S:List Ty)(K:Kd->List UInt8->Option (Vl × List UInt8))(fs:List Fd)(t1:List UInt8)(b1:Bool)(ps:List (Fd × Vl))(last:Nat)(tt:List UInt8):Prop where
 eq:b1=false->Dn S K fs 201 0 t1=Mr ps (Dn S K fs (201 - ps.length) last tt)
 len:Df ((ps.map Do).map Bg)+tt.length<=t1.length
 bd:∀p∈ps,Bd (Do p)
 lo:ps.length<=last
 hi:last<=200
def RE(S:List Ty)(K:Kd->List UInt8->Option (Vl × List UInt8))(fs:List Fd)(t1:List UInt8)(b1:Bool)(vs:List Vl)(tt:List UInt8)(bb:Bool)(N:Nat):Prop:=
 ∃ps:List (Fd × Vl),(if b1 then none else Dn S K fs 201 0 t1)=(if bb then none else match Am 125 tt with|some z=>some (ps,z)|none=>none)/\(bb=false->vs=ps.map Do)/\Df (vs.map Bg)+tt.length<=t1.length+8*N+1/\(∀x∈vs,Bd x)/\vs.length<=201
section
variable {S:List Ty} {K:Kd->List UInt8->Option (Vl × List UInt8)} {fs:List Fd} {t1 tt t' t'':List UInt8} {b1:Bool} {ps:List (Fd × Vl)} {last N:Nat} {g:Fd} {x:Vl}
theorem RI.init:RI S K fs t1 b1 [] 0 t1:=⟨fun _=>by cases h:Dn S K fs 201 0 t1<;>simp[Mr,h],by simp[Df],by simp,Ap _,by omega⟩
theorem RI.bad(h:RI S K fs t1 true ps last tt):RE S K fs t1 true (ps.map Do) tt true N:=
 ⟨ps,by simp,fun h=>Bool.noConfusion h,by have:=h.len;omega,fun y hy=>by obtain⟨p,hp,rfl⟩:=aw.1 hy;exact h.bd p hp,by have:=h.lo;have:=h.hi;simp;omega⟩
theorem RI.fuel(h:RI S K fs t1 b1 ps last tt):∃m,201 - ps.length=m+1:=⟨200 - ps.length,by have:=h.lo;have:=h.hi;omega⟩
theorem RI.step(h:RI S K fs t1 false ps last tt)(hK:Cp K fs tt=some ((g,x),t'))(hl:last<g.tag)(hne:Bg x≠Qa S g)(hlen:tt.length=(Bg (Do (g,x))).length+t'.length)(hc:Am 44 t'=some t'')(hB:Bd (Do (g,x)))(hg:g.tag<=200):
  RI S K fs t1 false (ps++[(g,x)]) g.tag t'':=by
 obtain⟨m,hm⟩:=h.fuel;have e:t'=44::t'':=B0.1 hc;refine⟨fun _=>?_,?_,fun p hp=>?_,by have:=h.lo;simp;omega,hg⟩
 ·rw[h.eq rfl,hm,show 201 - (ps++[(g,x)]).length=m by simp;omega];conv=>lhs;unfold Dn
  rw[hK];simp only;rw[if_neg dT,hc];simp only;cases Dn S K fs m g.tag t''<;>simp[Mr]
 ·have:=h.len;rw[ay,ay,Jy];simp[Er,Df]at this ⊢;rw[e]at hlen;simp at hlen;omega
 rcases af.1 hp with hp|hp
 ·exact h.bd p hp
 rw[ap]at hp;subst hp;exact hB
theorem RI.stop(h:RI S K fs t1 false ps last tt)(hs:∀y,Cp K fs tt=some y->y.1.1.tag<=last\/Bg y.1.2=Qa S y.1.1)(hl:t'.length<=tt.length):RE S K fs t1 false (ps.map Do) t' true N:=by
 obtain⟨m,hm⟩:=h.fuel;refine⟨ps,?_,fun h=>Bool.noConfusion h,by have:=h.len;omega,fun y hy=>by obtain⟨p,hp,rfl⟩:=aw.1 hy;exact h.bd p hp,by have:=h.lo;have:=h.hi;simp;omega⟩;rw[if_neg aJ,h.eq rfl,hm];unfold Dn;cases hk:Cp K fs tt with
 |none=>rfl
 |some y=>
  obtain⟨p,z⟩:=y;simp only;rw[if_pos (hs _ hk)];rfl
theorem RI.brk(h:RI S K fs t1 false ps last tt)(hx:∀y,Cp K fs tt=some y->y=((g,x),t'))(hl:last<g.tag)(hne:Bg x≠Qa S g)(hc:Aw [44] t' (Cp K fs tt).isNone=none)(hB:Bd (Do (g,x)))
  (hn:(Bg (Do (g,x))).length+t'.length<=tt.length+8*N):RE S K fs t1 false (ps.map Do++[Do (g,x)]) t' (Cp K fs tt).isNone N:=by
 obtain⟨m,hm⟩:=h.fuel;refine⟨ps++[(g,x)],?_,fun _=>by simp,?_,?_,by have:=h.lo;have:=h.hi;simp;omega⟩
 ·rw[if_neg aJ,h.eq rfl,hm];unfold Dn;cases hk:Cp K fs tt with
  |none=>rfl
  |some y=>
   have:=hx y hk;subst this;rw[hk,Bz]at hc;simp only[Option.isNone_some,an,if_false]at hc ⊢;rw[if_neg dT,hc];simp only;cases Am 125 t'<;>simp[Mr]
 ·have:=h.len;rw[ay,Jy];simp[Er,Df]at this ⊢;omega
 intro y hy;rcases af.1 hy with hy|hy
 ·obtain⟨p,hp,rfl⟩:=aw.1 hy;exact h.bd p hp
 rw[ap]at hy;subst hy;exact hB
theorem RE.fin{vs:List Vl}{bb:Bool}{t:List UInt8}(h:RE S K fs t1 b1 vs tt bb N)(h1:t1=(Aw [123] t false).getD t)(hb1:b1=(Aw [123] t false).isNone)(h2:Aw [125] t1 b1=none):
  (match Am 123 t with
   |none=>none
   |some r=>match Am 125 r with
    |some q=>some (Vl.mk 82 [] 0 [],q)
    |none=>match Dn S K fs 201 0 r with|some (ps,q)=>some (.mk 82 [] 0 (ps.map Do),q)|none=>none) =
  if (Aw [125] tt bb).isNone then none else some (.mk 82 [] 0 vs,(Aw [125] tt bb).getD tt):=by
 obtain⟨ps,h3,h4,_⟩:=h;rw[Bz]at h1 hb1 h2 ⊢;simp only[an,if_false]at h1 hb1;cases hy:Am 123 t with
 |none=>
  rw[hy]at hb1;simp only[Option.isNone_none]at hb1;subst hb1;simp only[if_true]at h3;simp only;cases bb with
  |true=>simp
  |false=>
   simp only[an,if_false]at h3 ⊢;cases hz:Am 125 tt with
   |none=>simp
   |some z=>rw[hz]at h3;cases h3
 |some r=>
  rw[hy]at h1 hb1;simp only[Option.isNone_some,Option.getD_some]at h1 hb1;subst h1 hb1;simp only[an,if_false]at h2 h3;simp only;rw[h2];simp only;rw[h3];cases bb with
  |true=>simp
  |false=>
   rw[h4 rfl];simp only[an,if_false];cases Am 125 tt<;>simp
end
end
end Go.Proofs.YtpjijpcemejlnaaGreatDoor
