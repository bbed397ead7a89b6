/- Texts joined. Conditions: as each theorem names them. -/
import Derived.Test.YtkigmebejmmikaaGreatDoorG19
set_option maxRecDepth 100000
set_option maxHeartbeats 32000000
set_option linter.unusedVariables false
set_option linter.unusedSimpArgs false
namespace Go.Proofs.YtkigmebejmmikaaGreatDoor
open Go.RowKit Go.Proofs.Tryz
section
attribute [local go_sem] Qjy Qiu Qil Qgp ByteArray.mk_append_mk
theorem Qfh(w0:World)(b:Nat)(p:Value)(S:List Ty)(t:List UInt8)(k:Kd)(dp:Nat)(hdp:dp<=12)(w:World)(hw:Below w0 w0 w)(hb:w0.heap.size<=b)(h:Dp w b p t false)(hl:t.length<=700)(hs:k.signs=[])(hbs:k.base≠[64])(hk:C0 k)
  (HV:IvC w0 b p S 901 k):
  Calls prog 24 #[b,Gb k,(dp:Int)] w (Kx w b p t (Ak S 1000 1 k t)):=by
 have HS:=Aa h;have HW:=Aa hw;have hb0:=h.1;have hbn:¬(b=w.heap.size):=aE;have hbn1:¬(b=w.heap.size+1):=aE;have s2:=h.2.2.2.2;have HV:=Aa (fun W (h1:Below w0 w0 W) (h2:Dp W b p t false)=>HV t false W h1 h2 aE (fun _=>by omega));simp only[ak,if_false,Qdp hk hs hbs]at HV;generalize Ak S 1000 1 k t=q at *;have HF0:=Aa (Ev.init (k:=k) HS.o (T:=39) (U:=42));have Hs:=Aa hs;have t1:(k.base != [64])=true:=by simpa using hbs
 have t2:(k.base == [64])=false:=by simpa using hbs
 clear h hw hs hbs hk;unfold Gb at *;go_enter func24,ntmps24;go_wp2_with fail;generalize hwg:World.alloc (World.alloc w _) _=w1;have F1:=@Aa (Ev w b p k t false w1) cj;clear hwg HF0 s2;have HSg:=Aa (El ⟨k.base.toArray⟩ ⟨k.name.toArray⟩ w1);rw[<-Hs.o]at HSg;refine HSg.o.mono ?_;rintro e w2 ⟨rfl,hb2⟩;have F2:=Aa (F1.o.post hb2);have k0:=Ab F2.o.2.1 0 rfl;have k1:=Ab F2.o.2.1 1 rfl;have k2:=Ab F2.o.2.1 2 rfl;simp only[aj]at k0 k1 k2;have hl2:w.heap.size<w2.heap.size:=dG;clear hb2 F1 HSg;go_wp2_with fail;refine(HV.o w2 (F2.o.1.env HW.o hb) F2.o.1.1).mono ?_;rintro e w3 ⟨v,sl,t',rfl,hk3,hs3,hx3,_,hl3,_⟩;obtain⟨A3,c3,rfl⟩:=hk3.form;have F3:=Aa (F2.o.step hb0 hs3);have K3:=Aa (hk3.mono (Q:=fun c=>w.heap.size+2<=c) fun c hc _=>by have:=F2.o.2.2.2;omega);clear hs3 k0 k1 k2;unfold Mg;go_wp2_with ((with_reducible refine Ac (op:=⟨none,.store 42 _ _,_,_,_,none⟩) rfl 42 _ _ rfl (w.heap.size+1) 0 (Em v (.slice A3 v.kids.length c3)) ?_ ?_ ?_ ?_ ?_ ?_);rfl;rfl;(exact F3.o.2.2.1);kernel_rfl;(simp[Em,Value.oneCell']);intro w9 HS9)
 have Z:=Ev.finU (t:=t) (v:=v) (sl:=.slice A3 v.kids.length c3) (r:=q) F3.o hb0 HS9.o K3.o rfl hx3 hl3;exact aC (v:=.agg (Em v (.slice A3 v.kids.length c3)).toArray) (Ag results24 _ _ (w.heap.size+1) _ _ rfl Z.2 underlying42 rfl aJ) rfl Z.1
theorem Qgj(k:Kd)(r:List UInt8)(hs:k.signs=63::r)(hrl:r.length<=1000):∃sg:Int,(∀W,Calls prog 35 #[Gb k.part] W fun e w'=>e=.returned (.int .u8 sg)/\Below W W w')/\(sg == 63)=decide (k.part.signs.head?=some 63):=by
 cases hp:k.part.signs with
 |nil=>exact⟨0,fun W=>by unfold Gb;rw[hp];exact El _ _ W,by simp⟩
 |cons c t=>
  have hpr:k.part.signs=r:=by unfold Kd.part;rw[hs];rfl
  have ht:t.length<=1000:=by rw[hpr]at hp;rw[hp]at hrl;simp at hrl;omega
  refine⟨(c.toNat:Int),fun W=>by unfold Gb;rw[hp];exact Fr c t ht _ _ W,?_⟩;rw[List.head?_cons,Bool.eq_iff_iff,beq_iff_eq,decide_eq_true_iff];exact⟨fun h=>congrArg some (UInt8.toNat_inj.1 (by show c.toNat=63;omega)),fun h=>by injection h with h;rw[h];rfl⟩
theorem Qcu{w W:World}{b:Nat}{p:Value}{k:Kd}{t:List UInt8}{bad:Bool}(h:Ev w b p k t bad W)(hb:b<w.heap.size)(x:Bool):Ev w b p k t x (W.setCell ⟨b,2,none⟩ (.bool x)):=h.step hb ⟨h.1.1.setBad x,Ap _ b 2 _⟩
theorem Qg0(w0:World)(b:Nat)(p:Value)(S:List Ty)(d:Nat)(t:List UInt8)(k:Kd)(r:List UInt8)(dp:Nat)(hdp:dp+(d+1)=13)(w:World)(hw:Below w0 w0 w)(hb:w0.heap.size<=b)(h:Dp w b p t false)(hl:t.length<=700)(hs:k.signs=63::r)(hk:C0 k)
  (HI:IuC w0 b p S d k.part):
  Calls prog 24 #[b,Gb k,(dp:Int)] w (Kx w b p t (B2 S (d+1) k t)):=by
 have HS:=Aa h;have HW:=Aa hw;have HI:=Aa HI;have hb0:=h.1;have hbn:¬(b=w.heap.size):=aE;have hbn1:¬(b=w.heap.size+1):=aE;have s2:=h.2.2.2.2;have hkl:=hk.2.2;have hrl:r.length<=1000:=eC;have HQ:=Aa (fun W=>Pf k W 63 r hs hrl);obtain⟨sg,hsg,hsgv⟩:=Qgj k r hs hrl;have HSg2:=Aa hsg
 have HR:=Aa (show B2 S (d+1) k t=if k.part.signs.head?=some 63 then none else(match Dt Fv t with|some q=>some (.mk 63 [] 0 [],q)|none=>match B2 S d k.part t with|some (v,q)=>some (.mk 63 [] 0 [v],q)|none=>none)by
  conv=>lhs;unfold B2
  rw[hs];simp<;>rfl)
 generalize B2 S (d+1) k t=q at *;have Hs:=Aa hs;have HF0:=Aa (Ev.init (k:=k) HS.o (T:=39) (U:=42));have enter:∀hd:Bool,decide (k.part.signs.head?=some 63)=hd->Calls prog 24 #[b,Gb k,(dp:Int)] w (Kx w b p t q):=by
  intro hd hhd;rw[hhd]at hsgv;have Hhd:=Aa hhd;have hsgn:decide (sg=63)=hd:=by rw[<-hsgv,Bool.eq_iff_iff];simp
  clear hhd hkl hs hsg h hw hk;unfold Gb at *;go_enter func24,ntmps24;go_wp2_with fail;generalize hwg:World.alloc (World.alloc w _) _=w1;have F1:=@Aa (Ev w b p k t false w1) cj;clear hwg HF0 s2;have HSg:=Aa (Fr 63 r hrl ⟨k.base.toArray⟩ ⟨k.name.toArray⟩ w1);rw[<-Hs.o]at HSg;refine HSg.o.mono ?_;rintro e w2 ⟨rfl,hb2⟩;have F2:=Aa (F1.o.post hb2);have k0:=Ab F2.o.2.1 0 rfl;have k1:=Ab F2.o.2.1 1 rfl;have k2:=Ab F2.o.2.1 2 rfl;simp only[aj]at k0 k1 k2;clear hb2 F1 HSg;go_wp2_with fail;refine(HQ.o w2).mono ?_;rintro e w3 ⟨rfl,hb3⟩;have F3:=Aa (F2.o.post hb3);clear hb3 F2 k0 k1 k2;go_wp2_with fail;refine(HSg2.o w3).mono ?_;rintro e w4 ⟨rfl,hb4⟩;have F4:=Aa (F3.o.post hb4);have q2:=F4.o.1.1.2.2.2.2;have qf:=F4.o.1.1.2.1.live 2;have ql:=F4.o.1.1.1;clear hb4 F3 HSg2;cases hd with
  |true=>
   have HQ2:=Aa (HR.o.trans (if_pos (of_decide_eq_true Hhd.o)));have F5:=Aa (Qcu F4.o hb0 true);clear HR;go_wp2_with fail;have Htk:=Aa (Dm b p t [110,117,108,108] true (w4.setCell ⟨b,2,none⟩ (.bool true)) F5.o.1.1 aE);simp only[Aj,if_true,Option.isSome_none,Option.getD_none]at Htk;refine Htk.o.mono ?_;rintro e w5 ⟨rfl,hs5⟩;have F5a:=Aa (F5.o.step hb0 hs5);have k0:=Ab F5a.o.2.1 0 rfl;have k1:=Ab F5a.o.2.1 1 rfl;have k2:=Ab F5a.o.2.1 2 rfl;simp only[aj]at k0 k1 k2;clear hs5 F5 F4 q2 qf Htk;go_wp2_with fail;refine(HQ.o _).mono ?_;rintro e w6 ⟨rfl,hb6⟩;have F6:=Aa (F5a.o.post hb6);clear hb6;go_wp2_with fail;have HIw:=Aa (HI.o t true w6 (dp+1) aE (F6.o.1.env HW.o hb) F6.o.1.1 aE);simp only[if_true]at HIw;unfold Gb at HIw;rw[show ((dp+1:Nat):Int)=(dp:Int)+1 from by omega]at HIw;refine HIw.o.mono ?_;rintro e w7 ⟨x,sl,t',rfl,hk7,hs7,hx7,hl7⟩;obtain⟨A7,c7,rfl⟩:=hk7.form;have F7:=Aa (F6.o.step hb0 hs7);have Hone:=@Aa (D1 (fun c=>w.heap.size+2<=c) (w7.alloc (.cells #[.int .u8 (x.what.toNat:Int),x.text,(x.tag:Int),.slice A7 x.kids.length c7] 42)) (.slice (w7,0) 1 1) [x]) (D1.one hk7 (fun c hc _=>by have:=F6.o.2.2.2;omega) (by have:=F7.o.2.2.2;omega));have F8:=Aa (F7.o.post (show Below w7 w7 (w7.alloc (.cells #[.int .u8 (x.what.toNat:Int),x.text,(x.tag:Int),.slice A7 x.kids.length c7] 42))from(Ay _ _).alloc (As _) _));have Hx7:=Aa hx7;clear hs7 hk7 hx7 HIw;unfold Mg;go_wp2_with ((with_reducible refine Ac (op:=⟨none,.store 42 _ _,_,_,_,none⟩) rfl 42 _ _ rfl (w.heap.size+1) 0 (Em (.mk 63 [] 0 [x]) (.slice (w7,0) 1 1)) ?_ ?_ ?_ ?_ ?_ ?_);rfl;rfl;(exact F8.o.2.2.1);kernel_rfl;(simp[Em,Value.oneCell']);intro w9 HS9)
   have Z:=Ev.finU (t:=t) (v:=.mk 63 [] 0 [x]) (sl:=.slice (w7,0) 1 1) (r:=q) F8.o hb0 HS9.o Hone.o (by simp[HQ2.o]) (by simp[HQ2.o]) hl7;exact aC (v:=.agg (Em (.mk 63 [] 0 [x]) (.slice (w7,0) 1 1)).toArray) (Ag results24 _ _ (w.heap.size+1) _ _ rfl Z.2 underlying42 rfl aJ) rfl Z.1
  |false=>
   have HQ2:=Aa (HR.o.trans (if_neg (of_decide_eq_false Hhd.o)));clear HR;go_wp2_with fail;have Htk:=Aa (Dm b p t [110,117,108,108] false w4 F4.o.1.1 aE);refine Htk.o.mono ?_;rcases hy:Aj [110,117,108,108] t false with _|z
   ·have HQ3:=Aa (HQ2.o.trans (by
     have:Dt Fv t=none:=by simpa [Aj,Fv]using hy
     rw[this]:_=match B2 S d k.part t with|some (v,q)=>some (.mk 63 [] 0 [v],q)|none=>none))
    clear hy;rintro e w5 ⟨rfl,hs5⟩;simp only[Option.getD_none]at hs5;have F5a:=Aa (F4.o.step hb0 hs5);have k0:=Ab F5a.o.2.1 0 rfl;have k1:=Ab F5a.o.2.1 1 rfl;have k2:=Ab F5a.o.2.1 2 rfl;simp only[aj]at k0 k1 k2;clear hs5 F4 q2 qf Htk;go_wp2_with fail;refine(HQ.o _).mono ?_;rintro e w6 ⟨rfl,hb6⟩;have F6:=Aa (F5a.o.post hb6);clear hb6;go_wp2_with fail;have HIw:=Aa (HI.o t false w6 (dp+1) aE (F6.o.1.env HW.o hb) F6.o.1.1 aE);simp only[ak,if_false]at HIw;unfold Gb at HIw;rw[show ((dp+1:Nat):Int)=(dp:Int)+1 from by omega]at HIw;refine HIw.o.mono ?_;rintro e w7 ⟨x,sl,t',rfl,hk7,hs7,hx7,hl7⟩;obtain⟨A7,c7,rfl⟩:=hk7.form;have F7:=Aa (F6.o.step hb0 hs7);have Hone:=@Aa (D1 (fun c=>w.heap.size+2<=c) (w7.alloc (.cells #[.int .u8 (x.what.toNat:Int),x.text,(x.tag:Int),.slice A7 x.kids.length c7] 42)) (.slice (w7,0) 1 1) [x]) (D1.one hk7 (fun c hc _=>by have:=F6.o.2.2.2;omega) (by have:=F7.o.2.2.2;omega));have F8:=Aa (F7.o.post (show Below w7 w7 (w7.alloc (.cells #[.int .u8 (x.what.toNat:Int),x.text,(x.tag:Int),.slice A7 x.kids.length c7] 42))from(Ay _ _).alloc (As _) _));have Hx7:=Aa hx7;clear hs7 hk7 hx7 HIw;unfold Mg;go_wp2_with ((with_reducible refine Ac (op:=⟨none,.store 42 _ _,_,_,_,none⟩) rfl 42 _ _ rfl (w.heap.size+1) 0 (Em (.mk 63 [] 0 [x]) (.slice (w7,0) 1 1)) ?_ ?_ ?_ ?_ ?_ ?_);rfl;rfl;(exact F8.o.2.2.1);kernel_rfl;(simp[Em,Value.oneCell']);intro w9 HS9)
    have Z:=Ev.finU (t:=t) (v:=.mk 63 [] 0 [x]) (sl:=.slice (w7,0) 1 1) (r:=q) F8.o hb0 HS9.o Hone.o (by rw[HQ3.o];cases B2 S d k.part t<;>rfl) (by rw[HQ3.o];cases hq:B2 S d k.part t with|none=>simp|some z=>intro y hy;have h:=Hx7.o z hq;simp at hy;rw[<-hy];exact⟨by rw[h.1],h.2⟩) hl7;exact aC (v:=.agg (Em (.mk 63 [] 0 [x]) (.slice (w7,0) 1 1)).toArray) (Ag results24 _ _ (w.heap.size+1) _ _ rfl Z.2 underlying42 rfl aJ) rfl Z.1
   have hyw:Dt Fv t=some z:=by simpa [Aj,Fv]using hy
   have HQ3:=Aa (HQ2.o.trans (by rw[hyw]:_=some (.mk 63 [] 0 [],z)));have hzl:z.length<=t.length:=by rw[Du.1 hyw];simp
   clear hy hyw;rintro e w5 ⟨rfl,hs5⟩;simp only[Option.getD_some]at hs5;have F5:=Aa (F4.o.step hb0 hs5);clear hs5 F4 q2 qf Htk;go_wp2_with ((with_reducible refine Ac (op:=⟨none,.store 42 _ _,_,_,_,none⟩) rfl 42 _ _ rfl (w.heap.size+1) 0 (Em (.mk 63 [] 0 []) (.slice none 0 0)) ?_ ?_ ?_ ?_ ?_ ?_);rfl;rfl;(exact F5.o.2.2.1);kernel_rfl;(simp[Em,Value.oneCell']);intro w9 HS9)
   have Z:=Ev.finU (t:=t) (v:=.mk 63 [] 0 []) (sl:=.slice none 0 0) (r:=q) F5.o hb0 HS9.o (D1.nil _ _) (by simp[HQ3.o]) (by simp[HQ3.o]) hzl;exact aC (v:=.agg (Em (.mk 63 [] 0 []) (.slice none 0 0)).toArray) (Ag results24 _ _ (w.heap.size+1) _ _ rfl Z.2 underlying42 rfl aJ) rfl Z.1
 exact enter _ rfl
def Rn(tt:List UInt8)(r:Option (Vl × List UInt8))(v:Vl)(t':List UInt8):Prop:=(∀x,r=some x->v=x.1/\t'=x.2)/\t'.length<=tt.length
structure ApN(w:World)(b B:Nat)(p:Value)(k:Kd)(h0 h1 h2 rv:Value)(xs:List (Vl × Value))(tt:List UInt8)(bb:Bool)(r:Option (Vl × List UInt8))(c s a d:Bool)(uc us ua:Value)(W:World):Prop where
 r1:∃t2 bad2,Ev w b p k t2 bad2 W/\(c=false->t2=tt/\bad2=bb)
 r2:a=false->Qk (B+1) B W h0 h1 h2 rv rv xs
 r3:c=true->∃v sl t',uc=Mg v sl/\Rn tt r v t'/\Ev w b p k t' r.isNone W/\(a=false->D1 (fun c=>B+1<=c/\rv.ownBlock≠some c) W sl v.kids) /\
  (s=true->a=false->∃W7,W=W7.alloc (.cells (Dx (v,sl)).toArray 42)/\us=.slice (some ⟨W7.heap.size,0,none⟩) 1 1/\Qk (B+1) B W7 h0 h1 h2 rv rv xs/\D1 (fun c=>B+1<=c/\rv.ownBlock≠some c) W7 sl v.kids/\Ev w b p k t' r.isNone W7) /\
  (a=true->d=false->∃A n c,ua=.slice A n c/\Qk (B+1) B W h0 h1 h2 rv ua (xs++[(v,sl)])) /\
  (d=true->∃A n c,ua=.slice A n c/\Qk (B+1) B W h0 h1 h2 ua ua (xs++[(v,sl)]))
 a_s:a=true->s=true
 s_c:s=true->c=true
 d_a:d=true->a=true
theorem Qeu(w0:World)(b:Nat)(p:Value)(S:List Ty)(d:Nat)(t:List UInt8)(k:Kd)(r:List UInt8)(dp:Nat)(hdp:dp+(d+1)=13)(w:World)(hw:Below w0 w0 w)(hb:w0.heap.size<=b)(h:Dp w b p t false)(hl:t.length<=700)(hs:k.signs=91::r)(hk:C0 k)
  (HI:IuC w0 b p S d k.part) (HG:∀s v r,B2 S d k.part s=some (v,r)->r.length<s.length):
  Calls prog 24 #[b,Gb k,(dp:Int)] w (Kx w b p t (B2 S (d+1) k t)):=by
 have HS:=Aa h;have HW:=Aa hw;have HG:=Aa HG;have hb0:=h.1;have hbn:¬(b=w.heap.size):=aE;have hbn1:¬(b=w.heap.size+1):=aE;have s2:=h.2.2.2.2;have hkl:=hk.2.2;have hrl:r.length<=1000:=eC;have HQp:=Aa (fun W=>Pf k W 91 r hs hrl);have HI:=Aa (fun(t:List UInt8) (W:World) (h1:Below w0 w0 W) (h2:Dp W b p t false) (h3:t.length<=700)=>HI t false W (dp+1) aE h1 h2 h3);simp only[ak,if_false]at HI;rw[show ((dp+1:Nat):Int)=(dp:Int)+1 from by omega]at HI;have HQ0:B2 S (d+1) k t=Kl (B2 S d k.part) 1000 t:=by
  conv=>lhs;unfold B2
  rw[hs];simp
 obtain⟨q,hq⟩:∃q,q=B2 S (d+1) k t:=⟨_,rfl⟩
 rw[HQ0]at hq;rw[HQ0,<-hq];have HQ:=Aa hq;have Hs:=Aa hs;have HF0:=Aa (Ev.init (k:=k) HS.o (T:=39) (U:=42));have hm:=Cc 91 t false;have Hwt:=Aa (fun W (h:Dp W b p t false)=>Bf b p t [91] false W h aE);have Hlt0:=Aa (fun r (h:Aj [91] t false=some r)=>Eo h);obtain⟨t1,ht1⟩:∃t1,t1=(Aj [91] t false).getD t:=⟨_,rfl⟩
 obtain⟨b1,hb1⟩:∃b1,b1=(Aj [91] t false).isNone:=⟨_,rfl⟩
 have Ht1:=Aa ht1;have Hb1:=Aa hb1;rw[<-ht1]at hm;rw[<-ht1,<-hb1]at Hwt;have Htk:=Aa (fun W (h:Dp W b p t1 b1)=>Dm b p t1 [93] b1 W h aE);have Hfin:=Aa (hq:q=Kl (B2 S d k.part) 1000 t);obtain⟨KK,hKK⟩:∃KK,KK=B2 S d k.part:=⟨_,rfl⟩
 rw[<-hKK]at HQ HG Hfin HI;clear h hw hq ht1 hb1 hs hk HQ0 hkl hKK;unfold Gb at *;go_enter func24,ntmps24;go_wp2_with fail;generalize hwg:World.alloc (World.alloc w _) _=W0;have F0:=@Aa (Ev w b p k t false W0) cj;clear hwg HF0 s2;have HSg:=Aa (Fr 91 r hrl ⟨k.base.toArray⟩ ⟨k.name.toArray⟩ W0);rw[<-Hs.o]at HSg;refine HSg.o.mono ?_;rintro e Ws ⟨rfl,hbs⟩;have Fs:=Aa (F0.o.post hbs);clear hbs F0 HSg;go_wp2_with fail;obtain⟨B,hB⟩:∃B,B=Ws.heap.size:=⟨_,rfl⟩
 have hBw:w.heap.size+2<=B:=by have:=Fs.o.2.2.2;omega
 generalize hwg:World.alloc Ws _=W1;have hbk:Mu W1 B:=by rw[<-hwg,hB];exact Mu.new Ws #[.int .u8 91,a8,.int .i64 0,.slice none 0 0] 42
 have hz1:W1.heap.size=B+1:=by rw[<-hwg,hB];simp
 have F1:=@Aa (Ev w b p k t false W1) (by rw[<-hwg];exact Fs.o.post ((Ay _ _).alloc (As _) _))
 have K1:=Aa (show Qk (B+1) B W1 (.int .u8 91) a8 (.int .i64 0) (.slice none 0 0) (.slice none 0 0) []from
  ⟨by omega,by omega,by omega,hbk,by rw[<-hwg,hB];simp[go_sem],by rw[<-hwg,hB];simp[go_sem],by rw[<-hwg,hB];simp[go_sem],by rw[<-hwg,hB];simp[go_sem],World.ownsRow_nil _ _ _ _,by simp⟩)
 rw[<-hB];clear hwg Fs hbk hB hz1;have hbB:b<B+1:=aE;have hbB2:b≠B:=aE;refine(Hwt.o _ F1.o.1.1).mono ?_;rintro e W2 ⟨rfl,hs2⟩;have F2:=Aa (F1.o.step hb0 hs2);have K2:=Aa (K1.o.step hs2.2 hbB hbB2);clear hs2 F1 K1;go_wp2_with fail;refine(Htk.o _ F2.o.1.1).mono ?_;rcases hy:Aj [93] t1 b1 with _|z
 ·have Hy:=Aa hy;clear hy;rintro e W3 ⟨rfl,hs3⟩;simp only[Option.getD_none]at hs3;have F3:=Aa (F2.o.step hb0 hs3);have K3:=Aa (K2.o.step hs3.2 hbB hbB2);clear hs3 F2 K2;go_wp2_with fail;go_loopw [] (fun wr=>∃(xs:List (Vl × Value)) (A:Option Addr) (n c:Nat) (tt:List UInt8),tt.length<=t1.length/\wr.cell? (b,1)=tt/\Hid (Ev w b p k tt b1 wr)/\Hid (Qk (B+1) B wr (.int .u8 91) a8 (.int .i64 0) (.slice A n c) (.slice A n c) xs)/\Hid (LN KK t1 b1 (Ar xs) tt))
   (fun wr=>match wr.cell? (b,1)with|some (.string s)=>s.size|_=>0)
  case atStart=>exact⟨[],none,0,0,t1,As _,F3.o.1.1.2.2.2.1,F3.o,K3.o,LN.init _ _ _⟩
  case round=>
   obtain⟨xs,A,n,c,tt,htl,c1,F,K,hI⟩:=hrel;have s2:=F.o.1.1.2.2.2.2;have hxl:xs.length<=700:=by have:=hI.o.2.2;simp[Ar]at this;omega
   have hnx:n=xs.length:=Ff K.o.row;subst hnx;cases b1 with
   |true=>
    go_wp2_with fail;have Hw9:=Aa (fun W (h:Dp W b p tt true)=>Bf b p tt [93] true W h aE);refine(Hw9.o _ F.o.1.1).mono ?_;rintro e W7 ⟨rfl,hs7⟩;have F7:=Aa (F.o.step hb0 hs7);have K7:=Aa (K.o.step hs7.2 hbB hbB2);have hfin:=Aa (HQ.o.trans ((Aa hI.o.bad).o.fin Ht1.o Hb1.o Hy.o));have hle9:=Cc 93 tt true;obtain⟨t4,ht4⟩:∃t4,t4=(Aj [93] tt true).getD tt:=⟨_,rfl⟩
    obtain⟨b4,hb4⟩:∃b4,b4=(Aj [93] tt true).isNone:=⟨_,rfl⟩
    rw[<-ht4]at F7 hfin hle9;rw[<-hb4]at F7 hfin;have E7:=Aa (show (Ar xs).length=xs.length by simp[Ar]);have d0:=K7.o.c0;have d1:=K7.o.c1;have d2:=K7.o.c2;have d3:=K7.o.c3;have dl:=K7.o.lt;have s7:=F7.o.1.1.2.1.live 2;have s8:=F7.o.1.1.2.2.2.2;have q7:=F7.o.1.1.1;clear hs7 ht4 hb4 Hw9;by_cases h20:xs.length<=20
    ·have t20:decide ((20:Int)<(xs.length:Int))=false:=az aE;go_wp2_with ((with_reducible refine Ac (op:=⟨none,.store 42 _ _,_,_,_,none⟩) rfl 42 _ _ rfl (w.heap.size+1) 0 [.int .u8 91,a8,.int .i64 0,.slice A xs.length c] ?_ ?_ ?_ ?_ ?_ ?_);rfl;rfl;(exact F7.o.2.2.1);kernel_rfl;(simp[Value.oneCell']);intro w9 HS9)
     have Z:=Ev.finU (t:=t) (v:=.mk 91 [] 0 (Ar xs)) (sl:=.slice A xs.length c) (r:=q) F7.o hb0 HS9.o ((K7.o.done aE).mono fun c hc _=>by omega) cG
      cG aE
     exact j0
    have t20:decide ((20:Int)<(xs.length:Int))=true:=aA aE;have F8:=Aa (F7.o.step hb0 ⟨F7.o.1.1.setBad true,Ap _ b 2 (.bool true)⟩);have K8:=Aa (K7.o.step (Ap _ b 2 (.bool true)) hbB hbB2);go_wp2_with ((with_reducible refine Ac (op:=⟨none,.store 42 _ _,_,_,_,none⟩) rfl 42 _ _ rfl (w.heap.size+1) 0 [.int .u8 91,a8,.int .i64 0,.slice A xs.length c] ?_ ?_ ?_ ?_ ?_ ?_);rfl;rfl;(exact F8.o.2.2.1);kernel_rfl;(simp[Value.oneCell']);intro w9 HS9)
    have Z:=Ev.finU (t:=t) (v:=.mk 91 [] 0 (Ar xs)) (sl:=.slice A xs.length c) (r:=q) F8.o hb0 HS9.o ((K8.o.done aE).mono fun c hc _=>by omega) dr
     dr aE
    exact j0
   |false=>
    have k0:=Ab F.o.2.1 0 rfl;have k1:=Ab F.o.2.1 1 rfl;have k2:=Ab F.o.2.1 2 rfl;simp only[aj]at k0 k1 k2;have kw:IntKind.i64.wrap ((dp:Int)+1)=(dp:Int)+1:=IntWalk.i64_in _ aE;go_wp2_with fail
    refine Z9 (fun l u W=>ApN w b B p k (.int .u8 91) a8 (.int .i64 0) (.slice A xs.length c) xs tt false (KK tt) (l 7) (l 8) (l 9) (l 11) (u 7) (u 8) (u 9) W) (fun W=>W.cell? (w,0)=k.signs/\W.cell? (w,1)=k.base/\W.cell? (w,2)=k.name) (fun l u W h=>by
     obtain⟨t2,bad2,hF2,_⟩:=h.r1;have k0:=Ab hF2.2.1 0 rfl;have k1:=Ab hF2.2.1 1 rfl;have k2:=Ab hF2.2.1 2 rfl;simp only[aj]at k0 k1 k2;exact⟨k0,k1,k2⟩) ⟨⟨tt,false,F.o.post (Ay _ _).drew,fun _=>⟨rfl,rfl⟩⟩,fun _=>K.o.after (Ay _ _).drew,fun h=>Bool.noConfusion h,fun h=>Bool.noConfusion h,fun h=>Bool.noConfusion h,fun h=>Bool.noConfusion h⟩ ?_
    refine sq ?_
    refine Gy (fun v=>v=.slice A xs.length c) (by
     intro l u W hl hp hF hG hi K9 hK;have h9:=(hi.o 9 cx).1;have g3:=(hF.o.r2 h9).c3;simp[Region.binds,Ck]at hp;clear h9;go_simp;exact hK _ _ _ rfl hF.o bX) ?_
    iterate 2 refine sq ?_
    refine Gy (fun v=>v=Gb k.part) (by
     intro l u W hl hp hF hG hi K9 hK;have h7:=(hi.o 7 cx).1;simp[Region.binds,Ck]at hp;obtain⟨⟨t2,bad2,hF2,hF3⟩,h2,h3,h4,h5,h6⟩:=hF.o;have HP:=Aa (HQp.o W);have hs8:l 8=false:=by cases h8:l 8 with|false=>rfl|true=>exact absurd ((h5 h8).symm.trans h7) aH
     have ha9:l 9=false:=by cases h9:l 9 with|false=>rfl|true=>exact absurd ((h4 h9).symm.trans hs8) aH
     clear hi;unfold Gb at HP;go_simp;refine HP.o.mono ?_;rintro e w' ⟨rfl,hb'⟩;refine hK _ _ _ rfl ⟨⟨t2,bad2,hF2.post hb',hF3⟩,fun h=>(h2 h).after hb',fun h=>absurd (h7.symm.trans h) aH,h4,h5,h6⟩ (by simp[Act.put,hp,Gb])) ?_
    iterate 2 refine sq ?_
    refine Gy (fun _=>True) (by
     intro l u W hl hp hF hG hi K9 hK;simp[Region.binds,Ck]at hp;obtain⟨⟨t2,bad2,hF2,hF3⟩,h2,h3,h4,h5,h6⟩:=hF.o;have hs8:l 8=false:=by cases h8:l 8 with|false=>rfl|true=>exact absurd ((h5 h8).symm.trans hl) aH
     have ha9:l 9=false:=by cases h9:l 9 with|false=>rfl|true=>exact absurd ((h4 h9).symm.trans hs8) aH
     have hd11:l 11=true->False:=fun h11=>absurd ((h6 h11).symm.trans ha9) aH;obtain⟨rfl,rfl⟩:=hF3 hl;have HC:=Aa (HI.o t2 W (hF2.1.env HW.o hb) hF2.1.1 aE);have HF2:=Aa hF2;have H2:=Aa (h2 ha9);clear hi hF2 h2 h3 hF3;unfold Gb at hp;go_simp;refine HC.o.mono ?_;rintro e w5 ⟨v,sl,t',rfl,hk5,hs5,hx5,hl5⟩;have hF5:=HF2.o.step hb0 hs5;have hK5:=H2.o.step hs5.2 hbB hbB2;have hks:D1 (fun g=>B+1<=g/\(Value.slice A xs.length c).ownBlock≠some g) w5 sl v.kids:=hk5.mono fun c hc _=>⟨by have:=H2.o.bs;omega,fun e=>by have:=(H2.o.row.lt c e).2;omega⟩
     exact hK (Mg v sl) _ _ Ad ⟨⟨t',_,hF5,fun h=>by simp at h⟩,fun _=>hK5,fun _=>⟨v,sl,t',rfl,⟨hx5,hl5⟩,hF5,fun _=>hks,fun h=>absurd (hs8.symm.trans h) aH,fun h=>absurd (ha9.symm.trans h) aH,fun h=>(hd11 h).elim⟩,h4,fun _=>rfl,h6⟩ bX) ?_
    refine Gy (fun _=>True) (by
     intro l u W hl hp hF hG hi K9 hK;have h9:=(hi.o 9 cx).1;simp[Region.binds,Ck]at hp;have lc:l 7=true:=bQ;obtain⟨⟨t2,bad2,hF2,hF3⟩,h2,h3,h4,h5,h6⟩:=hF.o;obtain⟨v,sl,t',u7,hrd,hFv,hks,_,_,_⟩:=h3 lc;obtain⟨A7,c7,rfl⟩:=(hks h9).form;have hba:Below W W (W.alloc (.cells (Dx (v,.slice A7 v.kids.length c7)).toArray 42)):=(Ay _ _).alloc (As _) _
     have HN:=Aa (show ApN w b B p k (.int .u8 91) a8 (.int .i64 0) (.slice A xs.length c) xs tt false (KK tt) (l 7) true (l 9) (l 11) (u 7) (.slice (W,0) 1 1) (u 9) (W.alloc (.cells (Dx (v,.slice A7 v.kids.length c7)).toArray 42))from
      ⟨⟨t',_,hFv.post hba,fun h=>absurd (lc.symm.trans h) aH⟩,fun h=>(h2 h).after hba,fun _=>⟨v,_,t',u7,hrd,hFv.post hba,fun h=>(hks h).after hba,fun _ h=>⟨W,rfl,rfl,h2 h,hks h,hFv⟩,fun h=>absurd (h9.symm.trans h) aH,fun h=>absurd (h9.symm.trans (h6 h)) aH⟩,fun _=>rfl,fun _=>lc,h6⟩)
     have hu7:u 7=.agg #[.int .u8 (v.what.toNat:Int),.string ⟨v.text.toArray⟩,(v.tag:Int),.slice A7 v.kids.length c7]:=u7;clear hi h2 h3 h4 h5 h6 hF2 hF3 hks hFv hba u7 h9 lc hrd;go_simp;exact hK _ _ _ Ad HN.o (by first|(simp[Act.put,hp,hu7];done)|(simp[Act.put,hp,hu7];exact rfl))) ?_
    refine Gy (fun _=>True) (by
     intro l u W hl hp hF hG hi K9 hK;simp[Region.binds,Ck]at hp;have ls:l 8=true:=bQ;obtain⟨⟨t2,bad2,hF2,hF3⟩,h2,h3,h4,h5,h6⟩:=hF.o;have lc:=h5 ls;have h11:l 11=false:=by cases h:l 11 with|false=>rfl|true=>exact absurd ((h6 h).symm.trans hl) aH
     obtain⟨v,sl,t',u7,hrd,hFv,hks,hs,_,_⟩:=h3 lc;obtain⟨W7,rfl,u8,hK7,hk7,hF7⟩:=hs ls hl;obtain⟨A7,c7,e7⟩:=hk7.form;clear hi hG;simp only[Region.wanted,if_true];refine Mz W7 (.tmp 38) (.tmp 45) 40 rfl (B+1) 42 (.agg #[.int .u8 0,a8,.int .i64 0,.slice none 0 0]) 4 56 underlying40 Pq rfl aH (Dx (v,sl)) rfl (Yv _ (by rw[e7];rfl)) (.slice A xs.length c) xs.length (xs.flatMap Dx) ?_ ?_ hK7.row aW aE hK7.bs ?_
     ·simp[hp];rfl
     ·simp[hp,u8];rfl
     intro v' w' hown hg hwh;obtain⟨A5',n5',c5',rfl⟩:=Jd hown;have hKa:=hK7.app (x:=(v,sl)) hk7 hown hg hwh;have hFa:Ev w b p k t' (KK tt).isNone w':=hF7.app hb0 hg (fun c e=>by have:=(hK7.row.lt c e).1;omega)
     exact hK _ _ _ Ad (show ApN w b B p k (.int .u8 91) a8 (.int .i64 0) (.slice A xs.length c) xs tt false (KK tt) (l 7) (l 8) true (l 11) (u 7) (u 8) (.slice A5' n5' c5') w' from
      ⟨⟨t',_,hFa,fun h=>absurd (lc.symm.trans h) aH⟩,fun h=>f8,fun _=>⟨v,sl,t',u7,hrd,hFa,fun h=>f8,fun _ h=>f8,fun _ _=>⟨A5',n5',c5',rfl,hKa⟩,fun h=>absurd (h11.symm.trans h) aH⟩,fun _=>ls,fun _=>lc,fun _=>rfl⟩) rfl) ?_
    refine sq ?_
    refine Gy (fun _=>True) (by
     intro l u W hl hp hF hG hi K9 hK;simp[Region.binds,Ck]at hp;have la:l 9=true:=bQ;obtain⟨⟨t2,bad2,hF2,hF3⟩,h2,h3,h4,h5,h6⟩:=hF.o;have ls:=h4 la;have lc:=h5 ls;obtain⟨v,sl,t',u7,hrd,hFv,_,_,ha,_⟩:=h3 lc;obtain⟨A6',n6',c6',ua,hKa⟩:=ha la hl;rw[ua]at hKa;have hcell:=hKa.c3;have hfz:=hKa.bk.live 3;have hst:=hKa.store;have hFs:Ev w b p k t' (KK tt).isNone (W.setCell ⟨B,3,none⟩ (.slice A6' n6' c6')):=hFv.put hb0 hBw _
     have HN:=Aa (show ApN w b B p k (.int .u8 91) a8 (.int .i64 0) (.slice A xs.length c) xs tt false (KK tt) (l 7) (l 8) (l 9) true (u 7) (u 8) (u 9) (W.setCell ⟨B,3,none⟩ (.slice A6' n6' c6'))from
      ⟨⟨t',_,hFs,fun h=>absurd (lc.symm.trans h) aH⟩,fun h=>absurd (la.symm.trans h) aH,fun _=>⟨v,sl,t',u7,hrd,hFs,fun h=>absurd (la.symm.trans h) aH,fun _ h=>absurd (la.symm.trans h) aH,fun _ h=>f8,fun _=>⟨A6',n6',c6',ua,by rw[ua];exact hst⟩⟩,h4,h5,fun _=>la⟩)
     clear hi h2 h3 h4 h5 h6 hF2 hF3 hFv ha hKa hst hFs u7 la ls lc hrd hG;go_simp;exact hK undef _ _ Ad HN.o (by simp[Act.put,hp,ua])) ?_
    intro l u W5 hl _ hR;have hR:ApN w b B p k (.int .u8 91) a8 (.int .i64 0) (.slice A xs.length c) xs tt false (KK tt) (l 7) (l 8) (l 9) (l 11) (u 7) (u 8) (u 9) W5:=hR;obtain⟨_,_,h3,_,_,_⟩:=hR;obtain⟨v,sl,t',_,hrd,hF,_,_,_,hd⟩:=h3 (hl 7 aH);obtain⟨A5,n5,c5,e5,hK5⟩:=hd (hl 11 aH);rw[e5]at hK5;have hn5:n5=(xs++[(v,sl)]).length:=Ff hK5.row;subst hn5;have F5:=Aa hF;have K5:=Aa hK5;have Rd5:=Aa hrd;have ht5:=hrd.2;clear hl h3 hd hF hK5 hrd e5 k0 k1 k2;have Htk5:=Aa (fun W (h:Dp W b p t' (KK tt).isNone)=>Dm b p t' [44] (KK tt).isNone W h aE);go_wp2_with fail;refine(Htk5.o _ F5.o.1.1).mono ?_;rcases hc:Aj [44] t' (KK tt).isNone with _|r5
    ·have Hc:=Aa hc;clear hc;rintro e W6 ⟨rfl,hs6⟩;simp only[Option.getD_none]at hs6;have F6:=Aa (F5.o.step hb0 hs6);have K6:=Aa (K5.o.step hs6.2 hbB hbB2)
     have E6:=Aa (show LM KK t1 false (Ar (xs++[(v,sl)])) t' (KK tt).isNone from by
      have:=hI.o.brk Rd5.o.1 Hc.o aE;simpa [Ar]using this)
     obtain⟨ys,hys⟩:∃ys,ys=xs++[(v,sl)]:=⟨_,rfl⟩
     rw[<-hys]at K6 E6;have hyl:ys.length<=701:=by rw[hys];simp;omega
     obtain⟨bb,hbb⟩:∃bb,bb=(KK tt).isNone:=⟨_,rfl⟩
     rw[<-hbb]at F6 E6;clear hs6 F5 K5 Hc Htk5 hys hbb Rd5 hI;go_wp2_with fail;have Hw9:=Aa (fun W (h:Dp W b p t' bb)=>Bf b p t' [93] bb W h aE);refine(Hw9.o _ F6.o.1.1).mono ?_;rintro e W7 ⟨rfl,hs7⟩;have F7:=Aa (F6.o.step hb0 hs7);have K7:=Aa (K6.o.step hs7.2 hbB hbB2);have hfin:=Aa (HQ.o.trans (E6.o.fin Ht1.o Hb1.o Hy.o));have hle9:=Cc 93 t' bb;obtain⟨t4,ht4⟩:∃t4,t4=(Aj [93] t' bb).getD t':=⟨_,rfl⟩
     obtain⟨b4,hb4⟩:∃b4,b4=(Aj [93] t' bb).isNone:=⟨_,rfl⟩
     rw[<-ht4]at F7 hfin hle9;rw[<-hb4]at F7 hfin;have E7:=Aa (show (Ar ys).length=ys.length by simp[Ar]);have d0:=K7.o.c0;have d1:=K7.o.c1;have d2:=K7.o.c2;have d3:=K7.o.c3;have dl:=K7.o.lt;have s7:=F7.o.1.1.2.1.live 2;have s8:=F7.o.1.1.2.2.2.2;have q7:=F7.o.1.1.1;clear hs7 ht4 hb4 Hw9;by_cases h20:ys.length<=20
     ·have t20:decide ((20:Int)<(ys.length:Int))=false:=az aE;go_wp2_with ((with_reducible refine Ac (op:=⟨none,.store 42 _ _,_,_,_,none⟩) rfl 42 _ _ rfl (w.heap.size+1) 0 [.int .u8 91,a8,.int .i64 0,.slice A5 ys.length c5] ?_ ?_ ?_ ?_ ?_ ?_);rfl;rfl;(exact F7.o.2.2.1);kernel_rfl;(simp[Value.oneCell']);intro w9 HS9)
      have Z:=Ev.finU (t:=t) (v:=.mk 91 [] 0 (Ar ys)) (sl:=.slice A5 ys.length c5) (r:=q) F7.o hb0 HS9.o ((K7.o.done aE).mono fun c hc _=>by omega) cG
       cG aE
      exact j4
     have t20:decide ((20:Int)<(ys.length:Int))=true:=aA aE;have F8:=Aa (F7.o.step hb0 ⟨F7.o.1.1.setBad true,Ap _ b 2 (.bool true)⟩);have K8:=Aa (K7.o.step (Ap _ b 2 (.bool true)) hbB hbB2);go_wp2_with ((with_reducible refine Ac (op:=⟨none,.store 42 _ _,_,_,_,none⟩) rfl 42 _ _ rfl (w.heap.size+1) 0 [.int .u8 91,a8,.int .i64 0,.slice A5 ys.length c5] ?_ ?_ ?_ ?_ ?_ ?_);rfl;rfl;(exact F8.o.2.2.1);kernel_rfl;(simp[Value.oneCell']);intro w9 HS9)
     have Z:=Ev.finU (t:=t) (v:=.mk 91 [] 0 (Ar ys)) (sl:=.slice A5 ys.length c5) (r:=q) F8.o hb0 HS9.o ((K8.o.done aE).mono fun c hc _=>by omega) dr
      dr aE
     exact j4
    have Hc:=Aa hc;have hcl:=Eo hc;clear hc;rintro e W6 ⟨rfl,hs6⟩;simp only[Option.getD_some]at hs6;cases hkk:KK tt with
    |none=>rw[hkk,Be]at Hc;exact absurd Hc.o aI
    |some y=>
     have Hk:=Aa hkk;rw[hkk]at hs6 F5 Rd5;have F6:=Aa (F5.o.step hb0 hs6);have K6:=Aa (K5.o.step hs6.2 hbB hbB2)
     have I6:=Aa (show LN KK t1 false (Ar (xs++[(v,sl)])) r5 from by
      obtain⟨e1,e2⟩:=Rd5.o.1 y rfl;have hg:=HG.o tt y.1 y.2 (by rw[Hk.o]);have h44:Ae 44 t'=some r5:=eE;have:=hI.o.step (v:=v) (t':=t') (by rw[Hk.o,e1,e2]) (by rw[e2];exact hg) h44 aE;simpa [Ar]using this)
     have c6:=F6.o.1.1.2.2.2.1;clear hs6 F5 K5 hkk;go_wp2_with fail;go_roundw
     case rel=>exact⟨xs++[(v,sl)],A5,(xs++[(v,sl)]).length,c5,r5,by omega,c6,F6.o,K6.o,I6.o⟩
     case measure=>simp[c1,c6,ByteArray.size];omega
 have Hy:=Aa hy;have hlt:=Eo hy;clear hy;rintro e W3 ⟨rfl,hs3⟩;simp only[Option.getD_some]at hs3;have F3:=Aa (F2.o.step hb0 hs3);have K3:=Aa (K2.o.step hs3.2 hbB hbB2);clear hs3 F2 K2;have d0:=K3.o.c0;have d1:=K3.o.c1;have d2:=K3.o.c2;have d3:=K3.o.c3;have dl:=K3.o.lt;go_wp2_with ((with_reducible refine Ac (op:=⟨none,.store 42 _ _,_,_,_,none⟩) rfl 42 _ _ rfl (w.heap.size+1) 0 [.int .u8 91,a8,.int .i64 0,.slice none 0 0] ?_ ?_ ?_ ?_ ?_ ?_);rfl;rfl;(exact F3.o.2.2.1);kernel_rfl;(simp[Value.oneCell']);intro w9 HS9)
 have hq2:q=some (.mk 91 [] 0 [],z):=by
  have h1:=Ht1.o;have h2:=Hb1.o;have h3:=Hy.o;rw[HQ.o];rw[Be]at h1 h2 h3;unfold Kl;simp only[ak,if_false]at h1 h2;cases h9:Ae 91 t with
  |none=>rw[h9]at h2;simp at h2;subst h2;simp at h3
  |some z9=>
   rw[h9]at h1 h2;simp at h1 h2;subst h1 h2;simp only[ak,if_false]at h3;simp only[h3]
 have Z:=Ev.finU (t:=t) (v:=.mk 91 [] 0 []) (sl:=.slice none 0 0) (r:=q) F3.o hb0 HS9.o (D1.nil _ _) dY
  (by rw[hq2];simp) aE
 exact aC (v:=.agg (Em (.mk 91 [] 0 []) (.slice none 0 0)).toArray) (Ag results24 _ _ (w.heap.size+1) _ _ rfl Z.2 underlying42 rfl aJ) rfl Z.1
theorem Qdx{S:List Ty}{K:Kd->List UInt8->Option (Vl × List UInt8)}{ty:Ty}(h9:ty.sort=69)(t t1 t3:List UInt8)(b1 b3:Bool)(h1:t1=(Aj [34] t false).getD t)(hb1:b1=(Aj [34] t false).isNone)
  (h3:t3=(Aj [34] (t1.dropWhile Ao) b1).getD (t1.dropWhile Ao)) (hb3:b3=(Aj [34] (t1.dropWhile Ao) b1).isNone):
  Jn S K ty t=(match Cx ty.fields (t1.takeWhile Ao)with|none=>none|some f=>if b3 then none else some (.mk 69 [] f.tag [],t3)):=by
 rw[Be]at h1 hb1 h3 hb3;unfold Jn;rw[if_pos h9];simp only[ak,if_false]at h1 hb1;cases hy:Ae 34 t with
 |none=>
  rw[hy]at hb1;simp at hb1;subst hb1;simp at hb3;subst hb3;cases Cx ty.fields (t1.takeWhile Ao)<;>simp
 |some r=>
  rw[hy]at h1 hb1;simp at h1 hb1;subst h1 hb1;simp only[ak,if_false]at h3 hb3;simp only;cases Cx ty.fields (t1.takeWhile Ao)with
  |none=>rfl
  |some f=>
   simp only;cases hz:Ae 34 (t1.dropWhile Ao)with
   |none=>rw[hz]at hb3;simp at hb3;subst hb3;simp
   |some z=>rw[hz]at h3 hb3;simp at h3 hb3;subst h3 hb3;simp
theorem Qhj(w0:World)(b:Nat)(p:Value)(XS:List PT)(hsc:S7 w0 p XS)(d:Nat)(t:List UInt8)(k:Kd)(dp:Nat)(hdp:dp<=12)(w:World)(hw:Below w0 w0 w)(hb:w0.heap.size<=b)(h:Dp w b p t false)(hl:t.length<=700)(hs:k.signs=[])(hbs:k.base=[64])(hk:C0 k)
  (x:PT) (hx:Ew XS k.name=some x) (h9:x.ty.sort=69) (hftag:∀f∈x.ty.fields,f.tag<=1000000000) (K:Kd->List UInt8->Option (Vl × List UInt8)) (q:Option (Vl × List UInt8)) (hq:q=Jn (Af XS) K x.ty t):
  Calls prog 24 #[b,Gb k,(dp:Int)] w (Kx w b p t q):=by
 have HS:=Aa h;have HW:=Aa hw;have hb0:=h.1;have hbn:¬(b=w.heap.size):=aE;have hbn1:¬(b=w.heap.size+1):=aE;have s2:=h.2.2.2.2;have hkl:=Gs hk;obtain⟨pq,mb,rfl,hpq,hm,hnm⟩:=hsc.map;have hix:=hsc.tys x (Fi hx).1;obtain⟨hy0,_,hy1,_⟩:=id hix;have HL:=Aa (fun W (hW:Below w0 w0 W)=>Fq (Dv.below hnm hW) k.name aE);rw[hx]at HL;unfold Rc PT.ptr at HL;have Hix:=Aa hix;have Hs:=Aa hs;have t1:(k.base != [64])=false:=ep;have t2:(k.base == [64])=true:=ep;have HF0:=Aa (Ev.init (k:=k) HS.o (T:=39) (U:=42));have hm1:=Cc 34 t false;have Hwt:=Aa (fun W (h:Dp W b pq t false)=>Bf b pq t [34] false W h aE);have Hst:=Aa (fun t1 t3 b1 b3=>Qdx (S:=Af XS) (K:=K) h9 t t1 t3 b1 b3);rw[h9]at hy1;obtain⟨t1',ht1⟩:∃t1',t1'=(Aj [34] t false).getD t:=⟨_,rfl⟩
 obtain⟨b1,hb1⟩:∃b1,b1=(Aj [34] t false).isNone:=⟨_,rfl⟩
 have Ht1:=Aa ht1;have Hb1:=Aa hb1;rw[<-ht1]at hm1;rw[<-ht1,<-hb1]at Hwt;have hd1:=Nd Ao t1';have HN:=Aa (fun W (h:Dp W b pq t1' b1)=>Pi b pq t1' b1 W h aE);have HF:=Aa (fun W (hW:Below w0 w0 W)=>K0 w0 x hix (t1'.takeWhile Ao) W hW);have Hw2:=Aa (fun W (h:Dp W b pq (t1'.dropWhile Ao) b1)=>Bf b pq (t1'.dropWhile Ao) [34] b1 W h aE);have hm3:=Cc 34 (t1'.dropWhile Ao) b1;have HQ:=Aa (hq.trans (Hst.o t1' _ b1 _ ht1 hb1 rfl rfl));obtain⟨t3,ht3⟩:∃t3,t3=(Aj [34] (t1'.dropWhile Ao) b1).getD (t1'.dropWhile Ao):=⟨_,rfl⟩
 obtain⟨b3,hb3⟩:∃b3,b3=(Aj [34] (t1'.dropWhile Ao) b1).isNone:=⟨_,rfl⟩
 rw[<-ht3,<-hb3]at HQ Hw2;rw[<-ht3]at hm3;obtain⟨fo,hfo⟩:∃fo,fo=Cx x.ty.fields (t1'.takeWhile Ao):=⟨_,rfl⟩
 rw[<-hfo]at HQ HF;have hft:∀f,fo=some f->f.tag<=1000000000:=fun f h=>hftag f ((Dd (hfo ▸ h)).1);have Hft:=Aa hft;clear ht1 hb1 Hst hq ht3 hb3 hfo hftag hft;clear h hw hs hbs hsc hnm hk hix;unfold Gb at *;go_enter func24,ntmps24;go_wp2_with fail;generalize hwg:World.alloc (World.alloc w _) _=w1;have F1:=@Aa (Ev w b pq k t false w1) cj;clear hwg HF0 s2;have HSg:=Aa (El ⟨k.base.toArray⟩ ⟨k.name.toArray⟩ w1);rw[<-Hs.o]at HSg;refine HSg.o.mono ?_;rintro e w2 ⟨rfl,hb2⟩;have F2:=Aa (F1.o.post hb2);have k0:=Ab F2.o.2.1 0 rfl;have k1:=Ab F2.o.2.1 1 rfl;have k2:=Ab F2.o.2.1 2 rfl;simp only[aj]at k0 k1 k2;have hb20:=F2.o.1.env HW.o hb;have q0:=F2.o.1.1.2.2.1;have ql:=F2.o.1.1.1;have q1:=(hb20.cell (p:=⟨pq,1,none⟩) hpq).trans hm;have y0:=(hb20.cell (p:=⟨x.blk,0,none⟩) hy0).trans hy1;have l4:pq<w2.heap.size:=ab hpq hb20.size;have l5:x.blk<w2.heap.size:=ab hy0 hb20.size;have l6:w.heap.size<w2.heap.size:=dG;have H20:=Aa hb20;clear hb2 F1 HSg hm hy1 hb20;go_wp2_with fail;refine rgB ?_;iterate 9 refine sq ?_
 refine Gy (fun v=>v=x.blk) ?_ ?_
 ·exact g8
 refine sq ?_;refine dnB fun w3 HB=>?_;have F3:=Aa (F2.o.post HB.o);have H30:=Aa (H20.o.trans (HB.o.mono H20.o.size));replace y0:=(HB.o.cell (p:=⟨x.blk,0,none⟩) l5).trans y0
 replace l5:=ab l5 HB.o.size
 clear HB HL k0 k1 k2 q0 q1 ql l4 l6 F2 H20;go_wp2_with fail;refine(Hwt.o _ F3.o.1.1).mono ?_;rintro e w4 ⟨rfl,hs4⟩;have F4:=Aa (F3.o.step hb0 hs4);have H40:=Aa (F4.o.1.env HW.o hb);clear hs4 y0;go_wp2_with fail;refine(HN.o _ F4.o.1.1).mono ?_;rintro e w5 ⟨rfl,hs5⟩;have F5:=Aa (F4.o.step hb0 hs5);have H50:=Aa (F5.o.1.env HW.o hb);clear hs5;go_wp2_with fail;refine(HF.o _ H50.o).mono ?_;rintro e w6 ⟨fv,rfl,hfv,rfl⟩;go_wp2_with fail;refine(Hw2.o _ F5.o.1.1).mono ?_;rintro e w7 ⟨rfl,hs7⟩;have F7:=Aa (F5.o.step hb0 hs7);have H70:=Aa (F7.o.1.env HW.o hb);have G7:=Aa hs7.2;clear hs7;cases fo with
 |none=>
  have hfv2:fv=.pointer none:=hfv;subst hfv2;have q2:=F7.o.1.1.2.2.2.2;have qf:=F7.o.1.1.2.1.live 2;have ql:=F7.o.1.1.1;have F8:=Aa (Qcu F7.o hb0 true);go_wp2_with ((with_reducible refine Ac (op:=⟨none,.store 42 _ _,_,_,_,none⟩) rfl 42 _ _ rfl (w.heap.size+1) 0 (Em (.mk 0 [] 0 []) (.slice none 0 0)) ?_ ?_ ?_ ?_ ?_ ?_);rfl;rfl;(exact F8.o.2.2.1);kernel_rfl;(simp[Em,Value.oneCell']);intro w9 HS9)
  have Z:=Ev.finU (t:=t) (v:=.mk 0 [] 0 []) (sl:=.slice none 0 0) (r:=q) F8.o hb0 HS9.o (D1.nil _ _) (by simp[HQ.o]) (by simp[HQ.o]) aE;exact aC (v:=.agg (Em (.mk 0 [] 0 []) (.slice none 0 0)).toArray) (Ag results24 _ _ (w.heap.size+1) _ _ rfl Z.2 underlying42 rfl aJ) rfl Z.1
 |some f=>
  obtain⟨fb,fo',rfl,hfb,hfr⟩:=hfv;have f0:=Ab (Bj hfr G7.o (fun e=>by have e2:fb=b:=Option.some.inj e;omega)) 0 rfl;rw[Nat.add_zero]at f0;have hft:=Hft.o f rfl;have lf:fb<w7.heap.size:=ab hfb H70.o.size;go_wp2_with ((with_reducible refine Ac (op:=⟨none,.store 42 _ _,_,_,_,none⟩) rfl 42 _ _ rfl (w.heap.size+1) 0 (Em (.mk 69 [] f.tag []) (.slice none 0 0)) ?_ ?_ ?_ ?_ ?_ ?_);rfl;rfl;(exact F7.o.2.2.1);kernel_rfl;(simp[Em,Value.oneCell']);intro w9 HS9)
  have Z:=Ev.finU (t:=t) (v:=.mk 69 [] f.tag []) (sl:=.slice none 0 0) (r:=q) F7.o hb0 HS9.o (D1.nil _ _) (by rw[HQ.o];cases b3<;>rfl) (by rw[HQ.o];cases b3<;>simp) aE;exact aC (v:=.agg (Em (.mk 69 [] f.tag []) (.slice none 0 0)).toArray) (Ag results24 _ _ (w.heap.size+1) _ _ rfl Z.2 underlying42 rfl aJ) rfl Z.1
end
theorem Tryz.infoIntU:(prog.info? 3).map (fun i=>(i.zero,i.size,i.bytes))=some (some (.int .i64 0),1,8):=aJ
structure Rx(w:World)(b V:Nat)(p:Value)(st:UInt8)(t:List UInt8)(bad:Bool)(ts:List Nat)(ks:List Vl)(sv h2 kv:Value)(W:World):Prop where
 f:Jp w b p w.heap.size t bad W
 rV:w.heap.size<V
 v:Vb V W (.int .u8 (st.toNat:Int)) a8 h2 kv
 sn:W.ownsRow (V+1) 3 1 sv ts.length (B6 ts)
 ks:D1 (fun c=>V<c/\sv.ownBlock≠some c) W kv ks
section
variable {w W W':World} {b V:Nat} {p sv sv' kv sl h2:Value} {st:UInt8} {t t':List UInt8} {bad bad':Bool} {ts:List Nat} {ks ks':List Vl}
theorem Rx.own(h:Rx w b V p st t bad ts ks sv h2 kv W){c:Nat}(hc:c<=V):sv.ownBlock≠some c:=fun e=>by have:=(h.sn.lt c e).1;omega
theorem Rx.after(h:Rx w b V p st t bad ts ks sv h2 kv W)(hb:Below W W W'):Rx w b V p st t bad ts ks sv h2 kv W':=⟨h.f.post hb,h.rV,h.v.after hb,Bm h.sn hb,h.ks.after hb⟩
theorem Rx.step(h:Rx w b V p st t bad ts ks sv h2 kv W)(hb:b<w.heap.size)(hs:Da W b p t' bad' W'):Rx w b V p st t' bad' ts ks sv h2 kv W':=by
 have hV:=h.rV;refine⟨h.f.step hb hs,h.rV,h.v.grown hs.2 (fun e=>by have e2:V=b:=Option.some.inj e;omega),h.sn.kept hs.2 (.inr (h.own aE)),h.ks.grown hs.2 fun c hc e=>by have e2:c=b:=Option.some.inj e;omega⟩
theorem Rx.seen{g:Nat}(h:Rx w b V p st t bad ts ks sv h2 kv W)(hb:b<w.heap.size)(hown:W'.ownsRow (V+1) 3 1 sv' (ts.length+1) (B6 ts++[.int .i64 (g:Int)]))(hg:W.grownBy W' sv.ownBlock)(hw:sv'.ownBlock=sv.ownBlock\/∃k,sv'.ownBlock=some k/\W.heap.size<=k):Rx w b V p st t bad (ts++[g]) ks sv' h2 kv W':=by
 have hV:=h.rV;refine⟨h.f.app hb hg (fun k e=>by have:=(h.sn.lt k e).1;omega),h.rV,h.v.grown hg (fun e=>h.own (As _) e.symm),by simpa [B6]using hown,h.ks.kept (fun c o u hc hl hu=>hg.cell hu (fun e=>hc.2 e.symm)) hg.size fun c hc hl=>⟨hc.1,fun e=>?_⟩⟩;rcases hw with e2|⟨k,e2,hk⟩
 ·rw[e2]at e;exact hc.2 e
 rw[e2]at e;have e3:k=c:=Option.some.inj e;omega
theorem Rx.put(h:Rx w b V p st t bad ts ks sv h2 kv W)(hb:b<w.heap.size)(hk:D1 (fun c=>V<c/\sv.ownBlock≠some c) W sl ks')(h2':Value):Rx w b V p st t bad ts ks' sv h2' sl (W.setCells V 0 [.int .u8 (st.toNat:Int),a8,h2',sl]):=by
 have hV:=h.rV;have hg:=D8 V [.int .u8 (st.toNat:Int),a8,h2',sl] 0 W;obtain⟨v1,v2,v3,v4,v5,v6⟩:=h.v;have f0:=v2.live 0;have f1:=v2.live 1;have f2:=v2.live 2;have f3:=v2.live 3;refine⟨h.f.app hb hg (fun k e=>by have e2:V=k:=Option.some.inj e;omega),h.rV,⟨by rw[Cm];exact v1,?_,?_,?_,?_,?_⟩,h.sn.kept hg (.inr (h.own (As _))),hk.grown hg fun c hc e=>by have e2:c=V:=Option.some.inj e;omega⟩
 ·exact(((v2.set _).set _).set _).set _
 all_goals simp[World.setCells,go_sem,v3,v4,v5,v6,f0,f1,f2,f3]
end
def PtR(W1:World)(V:Nat)(P:Nat->Prop)(ks:List Vl)(l7 l8:Bool)(u7:Value)(W:World):Prop:=
 (l8=true->l7=true)/\(l7=false->Below W1 W1 W)/\(l7=true->∃A n c W',u7=.agg ([.int .u8 82,a8,.int .i64 0,.slice A n c]:List Value).toArray/\Below W1 W1 W'/\D1 P W' (.slice A n c) ks/\W=if l8 then W'.setCells V 0 [.int .u8 82,a8,.int .i64 0,.slice A n c]else W')
section
attribute [local go_sem] Qjy Qiu Qil Qgp ByteArray.mk_append_mk
theorem Qhk(w0:World)(b:Nat)(p0:Value)(XS:List PT)(hsc:S7 w0 p0 XS)(hok:No (Af XS))(d:Nat)(t:List UInt8)(dp:Nat)(hdp:dp+(d+1)=13)(w:World)(hw:Below w0 w0 w)(hb:w0.heap.size<=b)(h:Dp w b p0 t false)(hl:t.length<=700)
  (x:PT) (hix:So w0 x) (h2:x.ty.sort=82) (hF:Fds x.ty.sort x.ty.fields) (hFr:∀f∈x.ty.fields,B9 (Af XS) f.kind) (h8:x.ty.fields.length<=8) (HI:∀f∈x.ty.fields,IuC w0 b p0 (Af XS) d f.kind) (HG:∀f∈x.ty.fields,∀s v r,B2 (Af XS) d f.kind s=some (v,r)->r.length<s.length/\(s.length<=700->Bd v))
  (q:Option (Vl × List UInt8)) (hq:q=Jn (Af XS) (B2 (Af XS) d) x.ty t):
  Calls prog 60 #[b,x.blk,(dp:Int)] w (Kx w b p0 t q):=by
 have HS:=Aa h;have HW:=Aa hw;have hb0:=h.1;have hbn:¬(b=w.heap.size):=aE;have h2s:=Aa h2;have hq:=Aa hq;have Hsc:=Aa hsc;have Hok:=Aa hok;have Hix:=Aa hix;have HF:=Aa hF;have HFr:=Aa hFr;have HI:=Aa HI;have HG:=Aa HG;obtain⟨hy0,_,hy1,_⟩:=id hix;rw[h2]at hy1;have hm:=Cc 123 t false;have Hwt:=Aa (fun W (h:Dp W b p0 t false)=>Bf b p0 t [123] false W h aE);obtain⟨t1,ht1⟩:∃t1,t1=(Aj [123] t false).getD t:=⟨_,rfl⟩
 obtain⟨b1,hb1⟩:∃b1,b1=(Aj [123] t false).isNone:=⟨_,rfl⟩
 have Ht1:=Aa ht1;have Hb1:=Aa hb1;rw[<-ht1]at hm;rw[<-ht1,<-hb1]at Hwt;have Htk:=Aa (fun W (h:Dp W b p0 t1 b1)=>Dm b p0 t1 [125] b1 W h aE);obtain⟨KK,hKK⟩:∃KK,KK=B2 (Af XS) d:=⟨_,rfl⟩
 have hq:=Aa (hKK ▸ hq.o:q=Jn (Af XS) KK x.ty t);have HKK:=Aa hKK;have HY1:=Aa hy1;clear h hw hsc hok hix hF hFr ht1 hb1 h2 hy1 hKK;have HF0:=Aa (Jp.init HS.o (T:=42));go_enter func60,ntmps60;go_wp2_with fail;generalize hwg:World.alloc w _=W1;have F1:=@Aa (Jp w b p0 w.heap.size t false W1) cj;clear hwg HF0;refine(Hwt.o _ F1.o.1.1).mono ?_;rintro e W2 ⟨rfl,hs2⟩;have F2:=Aa (F1.o.step hb0 hs2);have y0:=((F2.o.1.env HW.o hb).cell (p:=⟨x.blk,0,none⟩) hy0).trans HY1.o;have yl:x.blk<W2.heap.size:=ab hy0 (F2.o.1.env HW.o hb).size;clear hs2 F1;go_wp2_with fail;generalize hwg:World.alloc W2 _=W3;obtain⟨V,hV⟩:∃V,V=W2.heap.size:=⟨_,rfl⟩
 have hb3:Below W2 W2 W3:=eX
 have U3:=Aa (show Rx w b V p0 82 t1 b1 [] [] (.slice none 0 0) (.int .i64 0) (.slice none 0 0) W3 from
  ⟨F2.o.post hb3,by have:=F2.o.2.2.2;omega,by rw[<-hwg,hV];exact Vb.new,World.ownsRow_nil _ _ _ _,D1.nil _ _⟩)
 replace y0:=(hb3.cell (p:=⟨x.blk,0,none⟩) yl).trans y0
 replace yl:=ab yl hb3.size
 rw[<-hV];clear hwg hb3 F2 hV;refine(Htk.o _ U3.o.f.1.1).mono ?_;rcases hy:Aj [125] t1 b1 with _|z
 ·have Hy:=Aa hy;clear hy;rintro e W4 ⟨rfl,hs4⟩;simp only[Option.getD_none]at hs4;have U4:=Aa (U3.o.step hb0 hs4);clear hs4 U3 y0 yl Hwt Htk;go_wp2_with fail;go_loopw [8,9,10] (fun i8 i9 i10 wr=>∃(ps:List (Fd × Vl)) (A A2:Option Addr) (n c n2 c2:Nat) (tt:List UInt8),tt.length<=t1.length/\i8=.slice A n c/\wr.cell? (b,1)=tt/\Hid (Rx w b V p0 82 tt b1 (ps.map (·.1.tag)) ((Fg (Af XS) ps).map Cw) (.slice A n c) (.int .i64 0) (.slice A2 n2 c2) wr)/\Hid (FI KK x.ty.fields t1 b1 ps tt))
   (fun _ _ _ wr=>match wr.cell? (b,1)with|some (.string s)=>s.size|_=>0)
  case atStart=>exact⟨[],none,none,0,0,0,0,t1,As _,rfl,U4.o.f.1.1.2.2.2.1,U4.o,FI.init _ _ _ _⟩
  case round=>
   obtain⟨ps,A,A2,n,c,n2,c2,tt,htl,rfl,c1,U,hI⟩:=hrel;have s2:=U.o.f.1.1.2.2.2.2;have hps8:ps.length<=8:=ac hI.o.few h8;cases b1 with
   |true=>
    have Hw9:=Aa (fun W (h:Dp W b p0 tt true)=>Bf b p0 tt [125] true W h aE);go_wp2_with fail;refine(Hw9.o _ U.o.f.1.1).mono ?_;rintro e W9 ⟨rfl,hs9⟩;have U9:=Aa (U.o.step hb0 hs9);have hfin:=Aa (hq.o.trans (((FI.bad ps tt:FN KK x.ty.fields t1 true ps tt true)).fin h2s.o Ht1.o Hb1.o Hy.o));have hle9:=Cc 125 tt true;clear hs9 Hw9;obtain⟨te,hte⟩:∃te,te=(Aj [125] tt true).getD tt:=⟨_,rfl⟩
    obtain⟨be,hbe⟩:∃be,be=(Aj [125] tt true).isNone:=⟨_,rfl⟩
    rw[<-hte]at U9 hfin hle9;rw[<-hbe]at U9 hfin;clear hte hbe;have fv:=U9.o.v;have d0:=fv.c0;have d1:=fv.c1;have d2:=fv.c2;have d3:=fv.c3;have dl:=fv.lt;clear fv;go_wp2_with ((with_reducible refine Ac (op:=⟨none,.store 42 _ _,_,_,_,none⟩) rfl 42 _ _ rfl w 0 [.int .u8 82,a8,(.int .i64 0),(.slice A2 n2 c2)] ?_ ?_ ?_ ?_ ?_ ?_);rfl;rfl;(exact U9.o.f.2.1);kernel_rfl;(simp[Value.oneCell']);intro w9 HS9)
    have Z:=Jp.fin (v:=.mk 82 [] 0 ((Fg (Af XS) ps).map Cw)) (sl:=(.slice A2 n2 c2)) U9.o.f hb0 HS9.o (U9.o.ks.mono fun c hc _=>by have:=U9.o.rV;omega);exact aC (v:=.agg (Em (.mk 82 [] 0 ((Fg (Af XS) ps).map Cw)) ((.slice A2 n2 c2))).toArray) (Ag results60 _ _ w.heap.size _ _ rfl Z.2.2 underlying42 rfl aJ) rfl ⟨_,_,te,rfl,Z.1,by rw[hfin.o];cases be<;>exact Z.2.1,by rw[hfin.o];cases be<;>simp,by omega⟩
   |false=>
    have Hq:=Aa (Ff U.o.sn);obtain⟨ts,hts⟩:∃ts,ts=ps.map (·.1.tag):=⟨_,rfl⟩
    rw[<-hts]at U Hq;obtain rfl:n=ts.length:=Hq.o;have htl8:ts.length<=8:=by rw[hts,List.length_map];exact hps8
    have Hts:=Aa hts;obtain⟨ks,hks⟩:∃ks,ks=(Fg (Af XS) ps).map Cw:=⟨_,rfl⟩
    rw[<-hks]at U;have Hks:=Aa hks;clear hts hks Hq;have hdl:=Nd Ao tt;have HN:=Aa (fun W (h:Dp W b p0 tt false)=>Pi b p0 tt false W h aE);have HFn:=Aa (fun W (hW:Below w0 w0 W)=>K0 w0 x Hix.o (tt.takeWhile Ao) W hW);have Hw2:=Aa (fun W (h:Dp W b p0 (tt.dropWhile Ao) false)=>Bf b p0 (tt.dropWhile Ao) [58] false W h aE);have hm3:=Cc 58 (tt.dropWhile Ao) false;obtain⟨t3,ht3⟩:∃t3,t3=(Aj [58] (tt.dropWhile Ao) false).getD (tt.dropWhile Ao):=⟨_,rfl⟩
    obtain⟨b3,hb3⟩:∃b3,b3=(Aj [58] (tt.dropWhile Ao) false).isNone:=⟨_,rfl⟩
    have Ht3:=Aa ht3;have Hb3:=Aa hb3;rw[<-ht3]at hm3;rw[<-ht3,<-hb3]at Hw2;obtain⟨fo,hfo⟩:∃fo,fo=Cx x.ty.fields (tt.takeWhile Ao):=⟨_,rfl⟩
    rw[<-hfo]at HFn;have Hfo:=Aa hfo;clear ht3 hb3 hfo;go_wp2_with fail;refine(HN.o _ U.o.f.1.1).mono ?_;rintro e W5 ⟨rfl,hs5⟩;have U5:=Aa (U.o.step hb0 hs5);clear hs5;go_wp2_with fail;refine(HFn.o _ (U5.o.f.1.env HW.o hb)).mono ?_;rintro e W6 ⟨fv,rfl,hfv,rfl⟩;go_wp2_with fail;refine(Hw2.o _ U5.o.f.1.1).mono ?_;rintro e W7 ⟨rfl,hs7⟩;have U7:=Aa (U5.o.step hb0 hs7);have q2:=U7.o.f.1.1.2.2.2.2;have qf:=U7.o.f.1.1.2.1.live 2;have ql:=U7.o.f.1.1.1;have U8:=Aa (U7.o.step hb0 ⟨U7.o.f.1.1.setBad true,Ap _ b 2 (.bool true)⟩);have y0:=((U7.o.f.1.env HW.o hb).cell (p:=⟨x.blk,0,none⟩) hy0).trans HY1.o;have yl:x.blk<W7.heap.size:=ab hy0 (U7.o.f.1.env HW.o hb).size;clear hs7 HN Hw2 HFn;cases fo with
    |none=>
     have hfv2:fv=.pointer none:=hfv;subst hfv2;have HFN:=Aa (hI.o.no aE (fun p r h=>by unfold Cu at h;rw[<-Hfo.o]at h;cases h) ps t3:FN KK x.ty.fields t1 false ps t3 true);have Hw9:=Aa (fun W (h:Dp W b p0 t3 true)=>Bf b p0 t3 [125] true W h aE);go_wp2_with fail;refine(Hw9.o _ U8.o.f.1.1).mono ?_;rintro e W9 ⟨rfl,hs9⟩;have U9:=Aa (U8.o.step hb0 hs9);have hfin:=Aa (hq.o.trans ((HFN.o).fin h2s.o Ht1.o Hb1.o Hy.o));have hle9:=Cc 125 t3 true;clear hs9 Hw9;obtain⟨te,hte⟩:∃te,te=(Aj [125] t3 true).getD t3:=⟨_,rfl⟩
     obtain⟨be,hbe⟩:∃be,be=(Aj [125] t3 true).isNone:=⟨_,rfl⟩
     rw[<-hte]at U9 hfin hle9;rw[<-hbe]at U9 hfin;clear hte hbe;have fv:=U9.o.v;have d0:=fv.c0;have d1:=fv.c1;have d2:=fv.c2;have d3:=fv.c3;have dl:=fv.lt;clear fv;go_wp2_with ((with_reducible refine Ac (op:=⟨none,.store 42 _ _,_,_,_,none⟩) rfl 42 _ _ rfl w 0 [.int .u8 82,a8,(.int .i64 0),.slice A2 n2 c2] ?_ ?_ ?_ ?_ ?_ ?_);rfl;rfl;(exact U9.o.f.2.1);kernel_rfl;(simp[Value.oneCell']);intro w9 HS9)
     have Z:=Jp.fin (v:=.mk 82 [] 0 (ks)) (sl:=.slice A2 n2 c2) U9.o.f hb0 HS9.o (U9.o.ks.mono fun c hc _=>by have:=U9.o.rV;omega);exact aC (v:=.agg (Em (.mk 82 [] 0 (ks)) (.slice A2 n2 c2)).toArray) (Ag results60 _ _ w.heap.size _ _ rfl Z.2.2 underlying42 rfl aJ) rfl ⟨_,_,te,rfl,Z.1,by rw[hfin.o];cases be<;>exact Z.2.1,by rw[hfin.o];cases be<;>simp[Hks.o],by omega⟩
    |some f=>
     obtain⟨fb,fo',rfl,hfb,hfr⟩:=hfv;have hfm:=(Dd Hfo.o.symm).1;have hfd:=HF.o.1 f hfm;have hfw:fb<w.heap.size:=ab hfb HW.o.size;have hfbn:fb≠b:=aE;have Hfr:=@Aa (w.rangeAt fb fo' (Qx f)) (fun j v hv=>(World.cell?_of_block (a:=⟨fb,fo'+j,none⟩) (U5.o.f.1.2.block fb hfw (fun e=>hfbn (Option.some.inj e)))).symm.trans (hfr j v hv));have f0:=Ab (Bj Hfr.o U7.o.f.1.2 (fun e=>hfbn (Option.some.inj e))) 0 rfl;rw[Nat.add_zero]at f0;have lf:fb<W7.heap.size:=ab hfw U7.o.f.1.2.size;have hft:f.tag<=200:=hfd.2.1
     have Htg:=Aa (show ∀m∈ts,m<=1000000 from fun m hm=>by
      rw[Hts.o]at hm;obtain⟨pp,hpp,rfl⟩:=au.1 hm;have:=(HF.o.1 pp.1 (hI.o.m pp hpp)).2.1;omega)
     have Hrow:=Aa (show B8 W7 A ts.length (B6 ts)by
      obtain⟨A6,c6,e6,hr6⟩:=B8.own U7.o.sn;injection e6 with e61 e62 e63;rw[e61];exact hr6)
     have HC:=Aa (Mf A c ts f.tag W7 Hrow.o aE aE Htg.o);have Hfd:=Aa hfd;clear hfr hfd Hrow;go_wp2_with fail;refine HC.o.mono ?_;rintro e W8 ⟨rfl,rfl⟩;by_cases hsn:f.tag∈ts
     ·have HFN:=Aa (hI.o.no aE (fun p r h=>by
       have e1:p.1=f:=by
        unfold Cu at h;rw[<-Hfo.o]at h;simp only at h;cases h1:Ae 58 (tt.dropWhile Ao)with
        |none=>rw[h1]at h;cases h
        |some z1=>
         rw[h1]at h;simp only at h;cases h2:KK f.kind z1 with
         |none=>rw[h2]at h;cases h
         |some z2=>rw[h2]at h;simp only[ai,aB]at h;rw[<-h.1]
       rw[e1,<-Hts.o];exact hsn) ps t3:FN KK x.ty.fields t1 false ps t3 true)
      have tsn:decide (f.tag∈ts)=true:=aA hsn;rw[tsn];clear hsn tsn;have Hw9:=Aa (fun W (h:Dp W b p0 t3 true)=>Bf b p0 t3 [125] true W h aE);go_wp2_with fail;refine(Hw9.o _ U8.o.f.1.1).mono ?_;rintro e W9 ⟨rfl,hs9⟩;have U9:=Aa (U8.o.step hb0 hs9);have hfin:=Aa (hq.o.trans ((HFN.o).fin h2s.o Ht1.o Hb1.o Hy.o));have hle9:=Cc 125 t3 true;clear hs9 Hw9;obtain⟨te,hte⟩:∃te,te=(Aj [125] t3 true).getD t3:=⟨_,rfl⟩
      obtain⟨be,hbe⟩:∃be,be=(Aj [125] t3 true).isNone:=⟨_,rfl⟩
      rw[<-hte]at U9 hfin hle9;rw[<-hbe]at U9 hfin;clear hte hbe;have fv:=U9.o.v;have d0:=fv.c0;have d1:=fv.c1;have d2:=fv.c2;have d3:=fv.c3;have dl:=fv.lt;clear fv;go_wp2_with ((with_reducible refine Ac (op:=⟨none,.store 42 _ _,_,_,_,none⟩) rfl 42 _ _ rfl w 0 [.int .u8 82,a8,(.int .i64 0),.slice A2 n2 c2] ?_ ?_ ?_ ?_ ?_ ?_);rfl;rfl;(exact U9.o.f.2.1);kernel_rfl;(simp[Value.oneCell']);intro w9 HS9)
      have Z:=Jp.fin (v:=.mk 82 [] 0 (ks)) (sl:=.slice A2 n2 c2) U9.o.f hb0 HS9.o (U9.o.ks.mono fun c hc _=>by have:=U9.o.rV;omega);exact aC (v:=.agg (Em (.mk 82 [] 0 (ks)) (.slice A2 n2 c2)).toArray) (Ag results60 _ _ w.heap.size _ _ rfl Z.2.2 underlying42 rfl aJ) rfl ⟨_,_,te,rfl,Z.1,by rw[hfin.o];cases be<;>exact Z.2.1,by rw[hfin.o];cases be<;>simp[Hks.o],by omega⟩
     have tsn:decide (f.tag∈ts)=false:=az hsn;rw[tsn];have Hsn:=Aa hsn;have hV7:V+1<=W7.heap.size:=by have:=U7.o.v.lt;omega
     clear tsn hsn HC U8;go_wp2_with (at_builtin;refine Dg _ rfl _ _ 65 rfl (V+1) 3 (.int .i64 0) 8 underlying65 Tryz.infoIntU rfl W7 (f.tag:Int) rfl rfl (.slice A ts.length c) ts.length (B6 ts) rfl rfl U7.o.sn aW aE hV7 ?_;intro v' w8 hown8 hg8 hw8;obtain⟨A5,n5,c5,rfl⟩:=Jd hown8;have U8:=Aa (U7.o.seen hb0 hown8 hg8 hw8);have g2:=Ab (Bj Hfr.o U8.o.f.1.2 (fun e=>hfbn (Option.some.inj e))) 2 rfl;have g3:=Ab (Bj Hfr.o U8.o.f.1.2 (fun e=>hfbn (Option.some.inj e))) 3 rfl;have g4:=Ab (Bj Hfr.o U8.o.f.1.2 (fun e=>hfbn (Option.some.inj e))) 4 rfl;have lf8:fb<w8.heap.size:=ab hfw U8.o.f.1.2.size;clear hown8 hg8 hw8)
     have hn5:n5=(ts++[f.tag]).length:=Ff U8.o.sn;subst hn5;have HIw:=Aa (HI.o f hfm t3 b3 w8 (dp+1) aE (U8.o.f.1.env HW.o hb) U8.o.f.1.1 aE);obtain⟨rr,hrr⟩:∃rr,rr=if b3 then none else B2 (Af XS) d f.kind t3:=⟨_,rfl⟩
     rw[<-hrr]at HIw;have Hrr:=Aa hrr;clear hrr g2 g3 g4 f0 y0 yl q2 qf ql;unfold Gb at HIw;rw[show ((dp+1:Nat):Int)=(dp:Int)+1 from by omega]at HIw;refine HIw.o.mono ?_;rintro e w9 ⟨y,ysl,t4,rfl,hk9,hs9,hx9,hl9⟩;obtain⟨A7,c7,rfl⟩:=hk9.form;have U9:=Aa (U8.o.step hb0 hs9);have Hk9:=Aa (hk9.mono (Q:=fun c=>V<c/\(Value.slice A5 (ts++[f.tag]).length c5).ownBlock≠some c) fun c hc _=>⟨by have:=U8.o.v.lt;omega,fun e=>by have:=(U8.o.sn.lt c e).2;omega⟩);have Hx9:=Aa hx9;clear hk9 hs9 hx9 HIw;unfold Mg;have sq2:=U9.o.f.1.1.2.2.2.2;have sql:=U9.o.f.1.1.1;have hba:=(Ay w9.heap.size w9).alloc (As _) (.cells #[.int .u8 (y.what.toNat:Int),y.text,(y.tag:Int),.slice A7 y.kids.length c7] 42);obtain⟨Wa,hWa⟩:∃Wa,Wa=w9.alloc (.cells #[.int .u8 (y.what.toNat:Int),y.text,(y.tag:Int),.slice A7 y.kids.length c7] 42):=⟨_,rfl⟩
     rw[<-hWa]at hba;have Ua:=Aa (U9.o.after hba);have Hba:=Aa hba;have HWa:=Aa hWa;have hnF:Cu KK x.ty.fields tt=rr.map (fun y=>((f,y.1),y.2)):=by
      have e1:=Ht3.o;have e2:=Hb3.o;have e3:=Hrr.o;rw[Be]at e1 e2;simp only[ak,if_false]at e1 e2;unfold Cu;rw[<-Hfo.o];simp only;cases h1:Ae 58 (tt.dropWhile Ao)with
      |none=>rw[h1]at e2;simp at e2;subst e2;rw[e3];simp
      |some z1=>
       rw[h1]at e1 e2;simp at e1 e2;subst e1 e2;rw[e3,HKK.o];simp only[ak,if_false];cases B2 (Af XS) d f.kind t3<;>rfl
     have HnF:=Aa hnF;clear hba hWa hnF;cases rr with
     |none=>
      have HFN:=Aa (hI.o.no aE (fun p r h=>by rw[HnF.o]at h;cases h) ps t4:FN KK x.ty.fields t1 false ps t4 true);simp only[Option.isNone_none]at sq2;go_wp2_with fail;rw[<-HWa.o];have Htk9:=Aa (Dm b p0 t4 [44] true Wa Ua.o.f.1.1 aE);simp only[Aj,if_true,Option.isSome_none,Option.getD_none]at Htk9;refine Htk9.o.mono ?_;rintro e Wb ⟨rfl,hsb⟩;have Ub:=Aa (Ua.o.step hb0 hsb);clear hsb Htk9 sq2;have Hw9:=Aa (fun W (h:Dp W b p0 t4 true)=>Bf b p0 t4 [125] true W h aE);go_wp2_with fail;refine(Hw9.o _ Ub.o.f.1.1).mono ?_;rintro e W9 ⟨rfl,hs9⟩;have U9:=Aa (Ub.o.step hb0 hs9);have hfin:=Aa (hq.o.trans ((HFN.o).fin h2s.o Ht1.o Hb1.o Hy.o));have hle9:=Cc 125 t4 true;clear hs9 Hw9;obtain⟨te,hte⟩:∃te,te=(Aj [125] t4 true).getD t4:=⟨_,rfl⟩
      obtain⟨be,hbe⟩:∃be,be=(Aj [125] t4 true).isNone:=⟨_,rfl⟩
      rw[<-hte]at U9 hfin hle9;rw[<-hbe]at U9 hfin;clear hte hbe;have fv:=U9.o.v;have d0:=fv.c0;have d1:=fv.c1;have d2:=fv.c2;have d3:=fv.c3;have dl:=fv.lt;clear fv;go_wp2_with ((with_reducible refine Ac (op:=⟨none,.store 42 _ _,_,_,_,none⟩) rfl 42 _ _ rfl w 0 [.int .u8 82,a8,(.int .i64 0),.slice A2 n2 c2] ?_ ?_ ?_ ?_ ?_ ?_);rfl;rfl;(exact U9.o.f.2.1);kernel_rfl;(simp[Value.oneCell']);intro w9 HS9)
      have Z:=Jp.fin (v:=.mk 82 [] 0 (ks)) (sl:=.slice A2 n2 c2) U9.o.f hb0 HS9.o (U9.o.ks.mono fun c hc _=>by have:=U9.o.rV;omega);exact aC (v:=.agg (Em (.mk 82 [] 0 (ks)) (.slice A2 n2 c2)).toArray) (Ag results60 _ _ w.heap.size _ _ rfl Z.2.2 underlying42 rfl aJ) rfl ⟨_,_,te,rfl,Z.1,by rw[hfin.o];cases be<;>exact Z.2.1,by rw[hfin.o];cases be<;>simp[Hks.o],by omega⟩
     |some z=>
      obtain⟨ez1,ez2⟩:=Hx9.o z rfl;obtain⟨zv,zt⟩:=z;simp only at ez1 ez2;subst ez1 ez2;have hpk:b3=false/\B2 (Af XS) d f.kind t3=some (y,t4):=by
       have h:=Hrr.o;cases b3 with
       |true=>cases h
       |false=>exact⟨rfl,h.symm⟩
      obtain⟨hg1,hg2⟩:=HG.o f hfm t3 y t4 hpk.2;have hBd:=hg2 aE;simp only[Option.isNone_some]at sq2;have hks8:ks.length<=8:=by rw[Hks.o,List.length_map];exact ac Qgg hps8
      have Hkt:=Aa (show ∀z∈ks,z.tag<=1000000000 from fun z hz=>by
       rw[Hks.o]at hz;obtain⟨pp,hpp,rfl⟩:=au.1 hz;have:=(HF.o.1 pp.1 (hI.o.m pp (En pp hpp).1)).2.1;show pp.1.tag<=_;omega)
      have Hsn2:=Aa (show (f,y).1.tag∉ps.map (·.1.tag)by rw[<-Hts.o];exact Hsn.o);obtain⟨ks2,hks2⟩:∃ks2,ks2=(Fg (Af XS) (ps++[(f,y)])).map Cw:=⟨_,rfl⟩
      have Hks2:=Aa hks2;have Hpl:=Aa (show H4 (Au y != Kn (Af XS) f) f.tag (.mk 61 [] f.tag [y]) false ks=ks2 by rw[Hks.o,hks2];exact Qe1 Hsn2.o);have hfdk:=Hfd.o.2.2.2.2 fe;have Hbd:=Aa hBd;have y0a:=((Ua.o.f.1.env HW.o hb).cell (p:=⟨x.blk,0,none⟩) hy0).trans HY1.o;have yla:x.blk<Wa.heap.size:=ab hy0 (Ua.o.f.1.env HW.o hb).size;have x0:Wa.cell? (w9,0)=some (.int .u8 (y.what.toNat:Int)):=cd;have x1:Wa.cell? (w9,1)=y.text:=cd;have x2:Wa.cell? (w9,2)=(y.tag:Int):=cd;have x3:Wa.cell? (w9,3)=some (.slice A7 y.kids.length c7):=cd;have xl:w9.heap.size<Wa.heap.size:=by rw[HWa.o];simp
      have yl9:x.blk<w9.heap.size:=ab hy0 (U9.o.f.1.env HW.o hb).size;have y09:=((U9.o.f.1.env HW.o hb).cell (p:=⟨x.blk,0,none⟩) hy0).trans HY1.o;clear hks2 hBd hg2 hpk;go_wp2_with fail;rw[<-HWa.o];refine Z9 (fun l u W=>PtR Wa V (fun q=>V<q/\(Value.slice A5 (ts++[f.tag]).length c5).ownBlock≠some q) ks2 (l 7) (l 8) (u 7) W) (fun _=>True) (fun _ _ _ _=>Ad) ⟨by simp,fun _=>(Ay _ _).drew,by simp⟩ ?_;iterate 3 refine sq ?_
      refine Gy (fun v=>v=p0) (by
       intro l u W hl hp hF hG hi K9 hK;have h7:=(hi.o 7 cx).1;have hbW:=hF.o.2.1 h7;have hc:=(hbW.cell (p:=⟨b,0,none⟩) Ua.o.f.1.1.1).trans Ua.o.f.1.1.2.2.1;simp[Region.binds,Ck]at hp;clear h7 hbW;go_simp;exact hK _ _ _ rfl hF.o bX) ?_
      refine Gy (fun v=>v=.agg #[.int .u8 82,a8,.int .i64 0,.slice A2 n2 c2]) (by
       intro l u W hl hp hF hG hi K9 hK;have h7:=(hi.o 7 cx).1;have hbW:=hF.o.2.1 h7;have hv:=Ua.o.v.after hbW;have c0:=hv.c0;have c1:=hv.c1;have c2:=hv.c2;have c3:=hv.c3;simp[Region.binds,Ck]at hp;clear h7 hbW hv;go_simp;exact hK _ _ _ rfl hF.o bS) ?_
      refine sq ?_
      refine Gy (fun v=>v=.agg #[.int .u8 (y.what.toNat:Int),y.text,(y.tag:Int),.slice A7 y.kids.length c7]) (by
       intro l u W hl hp hF hG hi K9 hK;have h7:=(hi.o 7 cx).1;have hbW:=hF.o.2.1 h7;have c0:=(hbW.cell (p:=⟨w9.heap.size,0,none⟩) xl).trans x0;have c1:=(hbW.cell (p:=⟨w9.heap.size,1,none⟩) xl).trans x1;have c2:=(hbW.cell (p:=⟨w9.heap.size,2,none⟩) xl).trans x2;have c3:=(hbW.cell (p:=⟨w9.heap.size,3,none⟩) xl).trans x3;simp[Region.binds,Ck]at hp;clear h7 hbW;go_simp;exact hK _ _ _ rfl hF.o bS) ?_
      refine Gy (fun _=>True) (by
       intro l u W hl hp hF hG hi K9 hK;have h8:=(hi.o 8 cx).1;have hbW:=hF.o.2.1 hl;simp[Region.binds,Ck]at hp;have hbW0:Below w0 w0 W:=(Ua.o.f.1.env HW.o hb).trans (hbW.mono (Ua.o.f.1.env HW.o hb).size)
       have HC:=Aa (Qfo (fun q=>V<q/\(Value.slice A5 (ts++[f.tag]).length c5).ownBlock≠some q) W p0 XS (Hsc.o.below hbW0) Hok.o f fb fo' (ab hfb hbW0.size) (Av (Bj Hfr.o Ua.o.f.1.2 (fun e=>hfbn (Option.some.inj e))) (ab hfw Ua.o.f.1.2.size) hbW) hfdk.1 (HFr.o f hfm) (ac (Rz Hfd.o) aH) aE
        (.mk 82 [] 0 ks) (.slice A2 n2 c2) (Ua.o.ks.after hbW) (by show ks.length<=100;omega) Hkt.o y (.slice A7 y.kids.length c7) ((Hk9.o.after Hba.o).after hbW) Hbd.o)
       simp only[Vl.kids]at HC;rw[Hpl.o]at HC;have Hb:=Aa hbW;have hown:∀q,W.heap.size<=q->V<q/\(Value.slice A5 (ts++[f.tag]).length c5).ownBlock≠some q:=fun q hq=>⟨by have:=Ua.o.v.lt;have:=hbW.size;omega,fun e=>by have:=(Ua.o.sn.lt q e).2;have:=hbW.size;omega⟩
       have Hown:=Aa hown;clear hi hbW hbW0 hown;unfold Mg at HC;simp only[Vl.what,Vl.text,Vl.tag]at HC;go_simp;refine HC.o.mono ?_;rintro e w' ⟨sl',rfl,hiv',hb'⟩;obtain⟨A8,c8,rfl⟩:=hiv'.form;have hPt:PtR Wa V (fun q=>V<q/\(Value.slice A5 (ts++[f.tag]).length c5).ownBlock≠some q) ks2 true (l 8) (.agg #[.int .u8 82,a8,.int .i64 0,.slice A8 ks2.length c8]) w':=
        ⟨fun _=>rfl,fun h=>f8,fun _=>⟨A8,ks2.length,c8,w',rfl,Hb.o.trans (hb'.mono Hb.o.size),hiv'.mono fun q hq _=>hq.elim id (Hown.o q),by rw[h8];rfl⟩⟩
       exact hK _ _ _ Ad hPt bS) ?_
      refine Gy (fun _=>True) (by
       intro l u W hl hp hF hG hi K9 hK;simp[Region.binds,Ck]at hp;have h7:l 7=true:=bQ;obtain⟨A8,n8,c8,W',e7,hb',hiv',hW'⟩:=hF.o.2.2 h7;rw[hl]at hW';simp only[ak,if_false]at hW';subst hW';have ht:W.there V 0 4:=fun j hj=>by
        have hv:=Ua.o.v.after hb';have hbk:=hv.bk.live j;match j,hj with
        |0,_=>exact⟨by rw[hv.c0];rfl,hbk⟩
        |1,_=>exact⟨by rw[hv.c1];rfl,hbk⟩
        |2,_=>exact⟨by rw[hv.c2];rfl,hbk⟩
        |3,_=>exact⟨by rw[hv.c3];rfl,hbk⟩
       clear hi hG;simp only[Region.wanted,if_true];refine wp_store_mid 42 _ _ rfl V 0 ([.int .u8 82,a8,.int .i64 0,.slice A8 n8 c8]:List Value).toArray cx (by first|exact e7|(simp[e7];done)|(simp[e7];exact rfl)) ht aJ bY ?_;exact hK undef _ _ Ad ⟨fun _=>h7,fun h=>absurd (h7.symm.trans h) aH,fun _=>⟨A8,n8,c8,W,e7,hb',hiv',rfl⟩⟩ rfl) ?_
      intro l u Wp hl _ hR;have hR:PtR Wa V (fun q=>V<q/\(Value.slice A5 (ts++[f.tag]).length c5).ownBlock≠some q) ks2 (l 7) (l 8) (u 7) Wp:=hR;obtain⟨A8,n8,c8,W',e7,hb',hiv',hW'⟩:=hR.2.2 (hl 7 aH);rw[hl 8 aH,if_pos rfl]at hW';have Up:=@Aa (Rx w b V p0 82 t4 false (ts++[f.tag]) ks2 (.slice A5 (ts++[f.tag]).length c5) (.int .i64 0) (.slice A8 n8 c8) Wp) (by rw[hW'];exact(Ua.o.after hb').put hb0 hiv' _);simp only[e7];clear hl hR hb' hiv' hW' x0 x1 x2 x3 y0a e7 y09 sq2;have Htk9:=Aa (fun W (h:Dp W b p0 t4 false)=>Dm b p0 t4 [44] false W h aE);go_wp2_with fail;refine(Htk9.o _ Up.o.f.1.1).mono ?_;rcases hc:Aj [44] t4 false with _|t5
      ·have Hc:=Aa (show Ae 44 t4=none by rw[Be]at hc;simpa using hc);clear hc;rintro e Wb ⟨rfl,hsb⟩;simp only[Option.getD_none]at hsb;have Ub:=Aa (Up.o.step hb0 hsb);have HFN:=Aa (hI.o.last (p:=(f,y)) (t':=t4) (by rw[HnF.o];rfl) Hsn2.o Hc.o aE:FN KK x.ty.fields t1 false (ps++[(f,y)]) t4 false);clear hsb Htk9;have Hw9:=Aa (fun W (h:Dp W b p0 t4 false)=>Bf b p0 t4 [125] false W h aE);go_wp2_with fail;refine(Hw9.o _ Ub.o.f.1.1).mono ?_;rintro e W9 ⟨rfl,hs9⟩;have U9:=Aa (Ub.o.step hb0 hs9);have hfin:=Aa (hq.o.trans ((HFN.o).fin h2s.o Ht1.o Hb1.o Hy.o));have hle9:=Cc 125 t4 false;clear hs9 Hw9;obtain⟨te,hte⟩:∃te,te=(Aj [125] t4 false).getD t4:=⟨_,rfl⟩
       obtain⟨be,hbe⟩:∃be,be=(Aj [125] t4 false).isNone:=⟨_,rfl⟩
       rw[<-hte]at U9 hfin hle9;rw[<-hbe]at U9 hfin;clear hte hbe;have fv:=U9.o.v;have d0:=fv.c0;have d1:=fv.c1;have d2:=fv.c2;have d3:=fv.c3;have dl:=fv.lt;clear fv;go_wp2_with ((with_reducible refine Ac (op:=⟨none,.store 42 _ _,_,_,_,none⟩) rfl 42 _ _ rfl w 0 [.int .u8 82,a8,(.int .i64 0),.slice A8 n8 c8] ?_ ?_ ?_ ?_ ?_ ?_);rfl;rfl;(exact U9.o.f.2.1);kernel_rfl;(simp[Value.oneCell']);intro w9 HS9)
       have Z:=Jp.fin (v:=.mk 82 [] 0 (ks2)) (sl:=.slice A8 n8 c8) U9.o.f hb0 HS9.o (U9.o.ks.mono fun c hc _=>by have:=U9.o.rV;omega);exact aC (v:=.agg (Em (.mk 82 [] 0 (ks2)) (.slice A8 n8 c8)).toArray) (Ag results60 _ _ w.heap.size _ _ rfl Z.2.2 underlying42 rfl aJ) rfl ⟨_,_,te,rfl,Z.1,by rw[hfin.o];cases be<;>exact Z.2.1,by rw[hfin.o];cases be<;>simp[Hks2.o],by omega⟩
      have hcl:=Eo hc;have Hc:=Aa (show Ae 44 t4=some t5 by rw[Be]at hc;simpa using hc);clear hc;rintro e Wb ⟨rfl,hsb⟩;simp only[Option.getD_some]at hsb;have Ub:=Aa (Up.o.step hb0 hsb);have HFI:=Aa (hI.o.step (p:=(f,y)) (t':=t4) (by rw[HnF.o];rfl) hfm Hsn2.o aE Hc.o aE)
      have Ub2:=Aa (show Rx w b V p0 82 t5 false ((ps++[(f,y)]).map (·.1.tag)) ((Fg (Af XS) (ps++[(f,y)])).map Cw) (.slice A5 (ts++[f.tag]).length c5) (.int .i64 0) (.slice A8 n8 c8) Wb from by
       have h:=Ub.o;rw[Hks2.o]at h;have e1:(ps++[(f,y)]).map (·.1.tag)=ts++[f.tag]:=by rw[Hts.o];simp
       rw[e1];exact h)
      have c6:=Ub.o.f.1.1.2.2.2.1;clear hsb Htk9;go_wp2_with fail;go_roundw
      case rel=>exact⟨ps++[(f,y)],A5,A8,(ts++[f.tag]).length,c5,n8,c8,t5,by omega,by simp,c6,Ub2.o,HFI.o⟩
      case measure=>simp[c1,c6,ByteArray.size];omega
 have Hy:=Aa hy;have hlt:=Eo hy;clear hy;rintro e W4 ⟨rfl,hs4⟩;simp only[Option.getD_some]at hs4;have U4:=Aa (U3.o.step hb0 hs4);clear hs4 U3 y0 yl Hwt Htk;have hq2:q=some (.mk 82 [] 0 [],z):=by
  have h1:=Ht1.o;have h2:=Hb1.o;have h3:=Hy.o;rw[hq.o];rw[Be]at h1 h2 h3;unfold Jn;rw[if_neg fe];simp only[ak,if_false]at h1 h2;cases h9:Ae 123 t with
  |none=>rw[h9]at h2;simp at h2;subst h2;simp at h3
  |some z9=>
   rw[h9]at h1 h2;simp at h1 h2;subst h1 h2;simp only[ak,if_false]at h3;simp only;rw[if_neg fe];simp only[h3]
 have hb1f:b1=false:=by cases b1 with|false=>rfl|true=>have:=Hy.o;rw[Be]at this;simp at this
 subst hb1f;have Hq2:=Aa hq2;clear hq2;have fv:=U4.o.v;have d0:=fv.c0;have d1:=fv.c1;have d2:=fv.c2;have d3:=fv.c3;have dl:=fv.lt;clear fv;go_wp2_with ((with_reducible refine Ac (op:=⟨none,.store 42 _ _,_,_,_,none⟩) rfl 42 _ _ rfl w 0 [.int .u8 82,a8,(.int .i64 0),.slice none 0 0] ?_ ?_ ?_ ?_ ?_ ?_);rfl;rfl;(exact U4.o.f.2.1);kernel_rfl;(simp[Value.oneCell']);intro w9 HS9)
 have Z:=Jp.fin (v:=.mk 82 [] 0 ([])) (sl:=.slice none 0 0) U4.o.f hb0 HS9.o (U4.o.ks.mono fun c hc _=>by have:=U4.o.rV;omega);exact aC (v:=.agg (Em (.mk 82 [] 0 ([])) (.slice none 0 0)).toArray) (Ag results60 _ _ w.heap.size _ _ rfl Z.2.2 underlying42 rfl aJ) rfl ⟨_,_,z,rfl,Z.1,by rw[Hq2.o];exact Z.2.1,by rw[Hq2.o];simp,by omega⟩
def Qic(o:Option ((Fd × Vl) × List UInt8)):Option (Vl × List UInt8):=o.bind fun y=>(Ae 125 y.2).map fun z=>(.mk 85 [] y.1.1.tag [y.1.2],z)
theorem Qi9{S:List Ty}{K:Kd->List UInt8->Option (Vl × List UInt8)}{ty:Ty}(h5:ty.sort=85){t t1:List UInt8}{b1:Bool}(h1:t1=(Aj [123] t false).getD t)(hb1:b1=(Aj [123] t false).isNone):Jn S K ty t=if b1 then none else Qic (Cu K ty.fields t1):=by
 rw[Be]at h1 hb1;simp only[ak,if_false]at h1 hb1;unfold Jn;rw[if_neg dX];cases hy:Ae 123 t with
 |none=>rw[hy]at hb1;simp at hb1;subst hb1;simp
 |some r=>
  rw[hy]at h1 hb1;simp at h1 hb1;subst h1 hb1;simp only[ak,if_false];rw[if_pos h5];unfold Qic;cases Cu K ty.fields t1 with
  |none=>rfl
  |some y=>
   obtain⟨p,q⟩:=y;simp only[Option.bind_some];cases Ae 125 q<;>rfl
structure UvR(V:Nat)(tg:Nat)(z:Vl × Value)(W1:World)(l5 l7 l9:Bool)(u5:Value)(W:World):Prop where
 k:C7 (·=V) (.slice none 0 0) W1 W (.slice none 0 0)
 v:Vb V W (.int .u8 85) a8 (.int .i64 (if l7 then(tg:Int)else 0)) (if l9 then u5 else .slice none 0 0)
 r:l5=true->∃g,u5=.slice (some ⟨g,0,none⟩) 1 1/\W1.heap.size<=g/\g<W.heap.size/\W.rangeAt g 0 (Dx z)
 h:l9=true->l5=true
theorem Qg5(w0:World)(b:Nat)(p0:Value)(XS:List PT)(d:Nat)(t:List UInt8)(dp:Nat)(hdp:dp+(d+1)=13)(w:World)(hw:Below w0 w0 w)(hb:w0.heap.size<=b)(h:Dp w b p0 t false)(hl:t.length<=700)
  (x:PT) (hix:So w0 x) (h2:x.ty.sort=85) (hF:Fds x.ty.sort x.ty.fields) (HI:∀f∈x.ty.fields,IuC w0 b p0 (Af XS) d f.kind)
  (q:Option (Vl × List UInt8)) (hq:q=Jn (Af XS) (B2 (Af XS) d) x.ty t):
  Calls prog 60 #[b,x.blk,(dp:Int)] w (Kx w b p0 t q):=by
 have HS:=Aa h;have HW:=Aa hw;have hb0:=h.1;have hbn:¬(b=w.heap.size):=aE;have Hix:=Aa hix;have HF:=Aa hF;have HI:=Aa HI;obtain⟨hy0,_,hy1,_⟩:=id hix;rw[h2]at hy1;have hm:=Cc 123 t false;have Hwt:=Aa (fun W (h:Dp W b p0 t false)=>Bf b p0 t [123] false W h aE);obtain⟨t1,ht1⟩:∃t1,t1=(Aj [123] t false).getD t:=⟨_,rfl⟩
 obtain⟨b1,hb1⟩:∃b1,b1=(Aj [123] t false).isNone:=⟨_,rfl⟩
 have Hq:=Aa (hq.trans (Qi9 h2 ht1 hb1));rw[<-ht1]at hm;rw[<-ht1,<-hb1]at Hwt;have HY1:=Aa hy1;clear h hw hix hF ht1 hb1 h2 hy1 hq;have HF0:=Aa (Jp.init HS.o (T:=42));go_enter func60,ntmps60;go_wp2_with fail;generalize hwg:World.alloc w _=W1;have F1:=@Aa (Jp w b p0 w.heap.size t false W1) cj;clear hwg HF0;refine(Hwt.o _ F1.o.1.1).mono ?_;rintro e W2 ⟨rfl,hs2⟩;have F2:=Aa (F1.o.step hb0 hs2);have y0:=((F2.o.1.env HW.o hb).cell (p:=⟨x.blk,0,none⟩) hy0).trans HY1.o;have yl:x.blk<W2.heap.size:=ab hy0 (F2.o.1.env HW.o hb).size;obtain⟨W3,hW3⟩:∃W3,W3=W2.alloc (.cells #[.int .u8 85,a8,.int .i64 0,.slice none 0 0] 42):=⟨_,rfl⟩
 obtain⟨V,hV⟩:∃V,V=W2.heap.size:=⟨_,rfl⟩
 have hb3:Below W2 W2 W3:=by rw[hW3];exact(Ay _ _).alloc (As _) _
 have U3:=Aa (show Rx w b V p0 85 t1 b1 [] [] (.slice none 0 0) (.int .i64 0) (.slice none 0 0) W3 from
  ⟨F2.o.post hb3,by have:=F2.o.2.2.2;omega,by rw[hW3,hV];exact Vb.new,World.ownsRow_nil _ _ _ _,D1.nil _ _⟩)
 have HW3:=Aa hW3;have HV:=Aa hV;clear hs2 F1 F2 Hwt hb3 hW3 hV;go_wp2_with fail;rw[<-HW3.o,<-HV.o]
 go_loopw [8,9,10] (fun i8 i9 i10 wr=>∃(ts:List Nat) (ks:List Vl) (A A2:Option Addr) (n c n2 c2 tg:Nat) (tt:List UInt8) (bb:Bool),tt.length<=t1.length/\i8=.slice A n c/\tg<=1000/\wr.cell? (b,1)=tt/\Hid (Rx w b V p0 85 tt bb ts ks (.slice A n c) (tg:Int) (.slice A2 n2 c2) wr) /\
   Hid (ts=[]/\ks=[]/\n2=0/\A2=none/\c2=0/\tg=0/\tt=t1/\bb=b1\/ts.length=1/\(∀m∈ts,m<=1000000)/\bb=false/\q=none))
  (fun _ _ _ wr=>match wr.cell? (b,1)with|some (.string s)=>s.size|_=>0)
 case atStart=>exact⟨[],[],none,none,0,0,0,0,0,t1,b1,As _,rfl,by decide,U3.o.f.1.1.2.2.2.1,U3.o,.inl ⟨rfl,rfl,rfl,rfl,rfl,rfl,rfl,rfl⟩⟩
 case round=>
  obtain⟨ts,ks,A,A2,n,c,n2,c2,tg,tt,bb,htl,rfl,htg,c1,U,hI⟩:=hrel;have s2:=U.o.f.1.1.2.2.2.2;obtain rfl:n=ts.length:=Ff U.o.sn;rcases hI.o with⟨rfl,rfl,rfl,rfl,rfl,rfl,rfl,rfl⟩|⟨hts1,hts2,rfl,hqn⟩
  ·clear hI;cases bb with
   |true=>
    have Hw9:=Aa (fun W (h:Dp W b p0 tt true)=>Bf b p0 tt [125] true W h aE);go_wp2_with fail;refine(Hw9.o _ U.o.f.1.1).mono ?_;rintro e W9 ⟨rfl,hs9⟩;have U9:=@Aa (Rx w b V p0 85 tt true _ _ _ _ _ W9) (U.o.step hb0 cS);have Hqf:=Aa ((by have:=Hq.o;simpa using this):q=none);clear hs9 Hw9;have fv:=U9.o.v;have d0:=fv.c0;have d1:=fv.c1;have d2:=fv.c2;have d3:=fv.c3;have dl:=fv.lt;clear fv;go_wp2_with ((with_reducible refine Ac (op:=⟨none,.store 42 _ _,_,_,_,none⟩) rfl 42 _ _ rfl w 0 [.int .u8 85,a8,(.int .i64 0),.slice none 0 0] ?_ ?_ ?_ ?_ ?_ ?_);rfl;rfl;(exact U9.o.f.2.1);kernel_rfl;(simp[Value.oneCell']);intro w9 HS9)
    have Z:=Jp.fin (v:=.mk 85 [] 0 ([])) (sl:=.slice none 0 0) U9.o.f hb0 HS9.o (U9.o.ks.mono fun c hc _=>by have:=U9.o.rV;omega);exact aC (v:=.agg (Em (.mk 85 [] 0 ([])) (.slice none 0 0)).toArray) (Ag results60 _ _ w.heap.size _ _ rfl Z.2.2 underlying42 rfl aJ) rfl ⟨_,_,tt,rfl,Z.1,by rw[Hqf.o];exact Z.2.1,by rw[Hqf.o];simp,by omega⟩
   |false=>
    have Hq1:=Aa (show q=Qic (Cu (B2 (Af XS) d) x.ty.fields tt)by have:=Hq.o;simpa using this);have hdl:=Nd Ao tt;have HN:=Aa (fun W (h:Dp W b p0 tt false)=>Pi b p0 tt false W h aE);have HFn:=Aa (fun W (hW:Below w0 w0 W)=>K0 w0 x Hix.o (tt.takeWhile Ao) W hW);have Hw2:=Aa (fun W (h:Dp W b p0 (tt.dropWhile Ao) false)=>Bf b p0 (tt.dropWhile Ao) [58] false W h aE);have hm3:=Cc 58 (tt.dropWhile Ao) false;obtain⟨t3,ht3⟩:∃t3,t3=(Aj [58] (tt.dropWhile Ao) false).getD (tt.dropWhile Ao):=⟨_,rfl⟩
    obtain⟨b3,hb3⟩:∃b3,b3=(Aj [58] (tt.dropWhile Ao) false).isNone:=⟨_,rfl⟩
    have Ht3:=Aa ht3;have Hb3:=Aa hb3;rw[<-ht3]at hm3;rw[<-ht3,<-hb3]at Hw2;obtain⟨fo,hfo⟩:∃fo,fo=Cx x.ty.fields (tt.takeWhile Ao):=⟨_,rfl⟩
    rw[<-hfo]at HFn;have Hfo:=Aa hfo;clear ht3 hb3 hfo;go_wp2_with fail;refine(HN.o _ U.o.f.1.1).mono ?_;rintro e W5 ⟨rfl,hs5⟩;have U5:=Aa (U.o.step hb0 hs5);clear hs5;go_wp2_with fail;refine(HFn.o _ (U5.o.f.1.env HW.o hb)).mono ?_;rintro e W6 ⟨fv,rfl,hfv,rfl⟩;go_wp2_with fail;refine(Hw2.o _ U5.o.f.1.1).mono ?_;rintro e W7 ⟨rfl,hs7⟩;have U7:=Aa (U5.o.step hb0 hs7);have q2:=U7.o.f.1.1.2.2.2.2;have qf:=U7.o.f.1.1.2.1.live 2;have ql:=U7.o.f.1.1.1;have U8:=Aa (U7.o.step hb0 ⟨U7.o.f.1.1.setBad true,Ap _ b 2 (.bool true)⟩);have y0:=((U7.o.f.1.env HW.o hb).cell (p:=⟨x.blk,0,none⟩) hy0).trans HY1.o;have yl:x.blk<W7.heap.size:=ab hy0 (U7.o.f.1.env HW.o hb).size;clear hs7 HN Hw2 HFn;cases fo with
    |none=>
     have hfv2:fv=.pointer none:=hfv;subst hfv2;have Hqn:=Aa (Hq1.o.trans (by unfold Cu;rw[<-Hfo.o];rfl:_=none));have Hw9:=Aa (fun W (h:Dp W b p0 t3 true)=>Bf b p0 t3 [125] true W h aE);go_wp2_with fail;refine(Hw9.o _ U8.o.f.1.1).mono ?_;rintro e W9 ⟨rfl,hs9⟩;have U9:=@Aa (Rx w b V p0 85 t3 true _ _ _ _ _ W9) (U8.o.step hb0 cS);have Hqf:=Aa (Hqn.o:q=none);clear hs9 Hw9;have fv:=U9.o.v;have d0:=fv.c0;have d1:=fv.c1;have d2:=fv.c2;have d3:=fv.c3;have dl:=fv.lt;clear fv;go_wp2_with ((with_reducible refine Ac (op:=⟨none,.store 42 _ _,_,_,_,none⟩) rfl 42 _ _ rfl w 0 [.int .u8 85,a8,(.int .i64 0),.slice none 0 0] ?_ ?_ ?_ ?_ ?_ ?_);rfl;rfl;(exact U9.o.f.2.1);kernel_rfl;(simp[Value.oneCell']);intro w9 HS9)
     have Z:=Jp.fin (v:=.mk 85 [] 0 ([])) (sl:=.slice none 0 0) U9.o.f hb0 HS9.o (U9.o.ks.mono fun c hc _=>by have:=U9.o.rV;omega);exact aC (v:=.agg (Em (.mk 85 [] 0 ([])) (.slice none 0 0)).toArray) (Ag results60 _ _ w.heap.size _ _ rfl Z.2.2 underlying42 rfl aJ) rfl ⟨_,_,t3,rfl,Z.1,by rw[Hqf.o];exact Z.2.1,by rw[Hqf.o];simp,by omega⟩
    |some f=>
     obtain⟨fb,fo',rfl,hfb,hfr⟩:=hfv;have hfm:=(Dd Hfo.o.symm).1;have hfd:=HF.o.1 f hfm;have hfw:fb<w.heap.size:=ab hfb HW.o.size;have hfbn:fb≠b:=aE;have Hfr:=@Aa (w.rangeAt fb fo' (Qx f)) (fun j v hv=>(World.cell?_of_block (a:=⟨fb,fo'+j,none⟩) (U5.o.f.1.2.block fb hfw (fun e=>hfbn (Option.some.inj e)))).symm.trans (hfr j v hv));have f0:=Ab (Bj Hfr.o U7.o.f.1.2 (fun e=>hfbn (Option.some.inj e))) 0 rfl;rw[Nat.add_zero]at f0;have lf:fb<W7.heap.size:=ab hfw U7.o.f.1.2.size;have hft:f.tag<=200:=hfd.2.1;have Hfd:=Aa hfd;clear hfr hfd
     have Hrow:=Aa (show B8 W7 A ([]:List Nat).length (B6 [])by
      obtain⟨A6,c6,e6,hr6⟩:=B8.own U7.o.sn;injection e6 with e61 e62 e63;rw[e61];exact hr6)
     have HC:=Aa (Mf A c [] f.tag W7 Hrow.o aI aE aI);simp only[List.length_nil,List.not_mem_nil,decide_false]at HC;clear Hrow;go_wp2_with fail;refine HC.o.mono ?_;rintro e W8 ⟨rfl,rfl⟩;have hV7:V+1<=W7.heap.size:=by have:=U7.o.v.lt;omega
     clear HC U8;go_wp2_with (at_builtin;refine Dg _ rfl _ _ 65 rfl (V+1) 3 (.int .i64 0) 8 underlying65 Tryz.infoIntU rfl W7 (f.tag:Int) rfl rfl (.slice A 0 c) 0 (B6 []) rfl rfl U7.o.sn aW aE hV7 ?_;intro v' w8 hown8 hg8 hw8;obtain⟨A5,n5,c5,rfl⟩:=Jd hown8;have U8:=Aa (U7.o.seen (g:=f.tag) hb0 hown8 hg8 hw8);have g2:=Ab (Bj Hfr.o U8.o.f.1.2 (fun e=>hfbn (Option.some.inj e))) 2 rfl;have g3:=Ab (Bj Hfr.o U8.o.f.1.2 (fun e=>hfbn (Option.some.inj e))) 3 rfl;have g4:=Ab (Bj Hfr.o U8.o.f.1.2 (fun e=>hfbn (Option.some.inj e))) 4 rfl;have lf8:fb<w8.heap.size:=ab hfw U8.o.f.1.2.size;clear hown8 hg8 hw8)
     have hn5:n5=([]++[f.tag]:List Nat).length:=Ff U8.o.sn;subst hn5;have HIw:=Aa (HI.o f hfm t3 b3 w8 (dp+1) aE (U8.o.f.1.env HW.o hb) U8.o.f.1.1 aE);obtain⟨rr,hrr⟩:∃rr,rr=if b3 then none else B2 (Af XS) d f.kind t3:=⟨_,rfl⟩
     rw[<-hrr]at HIw;have Hrr:=Aa hrr;clear hrr g2 g3 g4 f0 y0 yl q2 qf ql;unfold Gb at HIw;rw[show ((dp+1:Nat):Int)=(dp:Int)+1 from by omega]at HIw;refine HIw.o.mono ?_;rintro e w9 ⟨y,ysl,t4,rfl,hk9,hs9,hx9,hl9⟩;obtain⟨A7,c7,rfl⟩:=hk9.form;have U9:=Aa (U8.o.step hb0 hs9);have Hk9:=Aa (hk9.mono (Q:=fun c=>V<c/\(Value.slice A5 ([]++[f.tag]:List Nat).length c5).ownBlock≠some c) fun c hc _=>⟨by have:=U8.o.v.lt;omega,fun e=>by have:=(U8.o.sn.lt c e).2;omega⟩);have Hx9:=Aa hx9;clear hk9 hs9 hx9 HIw;unfold Mg;have sq2:=U9.o.f.1.1.2.2.2.2;have sql:=U9.o.f.1.1.1;have hba:=(Ay w9.heap.size w9).alloc (As _) (.cells #[.int .u8 (y.what.toNat:Int),y.text,(y.tag:Int),.slice A7 y.kids.length c7] 42);obtain⟨Wa,hWa⟩:∃Wa,Wa=w9.alloc (.cells #[.int .u8 (y.what.toNat:Int),y.text,(y.tag:Int),.slice A7 y.kids.length c7] 42):=⟨_,rfl⟩
     rw[<-hWa]at hba;have Ua:=Aa (U9.o.after hba);have Hba:=Aa hba;have HWa:=Aa hWa;have hnF:Cu (B2 (Af XS) d) x.ty.fields tt=rr.map (fun y=>((f,y.1),y.2)):=by
      have e1:=Ht3.o;have e2:=Hb3.o;have e3:=Hrr.o;rw[Be]at e1 e2;simp only[ak,if_false]at e1 e2;unfold Cu;rw[<-Hfo.o];simp only;cases h1:Ae 58 (tt.dropWhile Ao)with
      |none=>rw[h1]at e2;simp at e2;subst e2;rw[e3];simp
      |some z1=>
       rw[h1]at e1 e2;simp at e1 e2;subst e1 e2;rw[e3];simp only[ak,if_false];cases B2 (Af XS) d f.kind t3<;>rfl
     have HnF:=Aa hnF;clear hba hWa hnF;cases rr with
     |none=>
      have Hqn:=Aa (Hq1.o.trans (by rw[HnF.o];rfl:_=none));simp only[Option.isNone_none]at sq2;go_wp2_with fail;rw[<-HWa.o];have Htk9:=Aa (Dm b p0 t4 [44] true Wa Ua.o.f.1.1 aE);simp only[Aj,if_true,Option.isSome_none,Option.getD_none]at Htk9;refine Htk9.o.mono ?_;rintro e Wb ⟨rfl,hsb⟩;have Ub:=Aa (Ua.o.step hb0 hsb);clear hsb Htk9 sq2;have Hw9:=Aa (fun W (h:Dp W b p0 t4 true)=>Bf b p0 t4 [125] true W h aE);go_wp2_with fail;refine(Hw9.o _ Ub.o.f.1.1).mono ?_;rintro e W9 ⟨rfl,hs9⟩;have U9:=@Aa (Rx w b V p0 85 t4 true _ _ _ _ _ W9) (Ub.o.step hb0 cS);have Hqf:=Aa (Hqn.o:q=none);clear hs9 Hw9;have fv:=U9.o.v;have d0:=fv.c0;have d1:=fv.c1;have d2:=fv.c2;have d3:=fv.c3;have dl:=fv.lt;clear fv;go_wp2_with ((with_reducible refine Ac (op:=⟨none,.store 42 _ _,_,_,_,none⟩) rfl 42 _ _ rfl w 0 [.int .u8 85,a8,(.int .i64 0),.slice none 0 0] ?_ ?_ ?_ ?_ ?_ ?_);rfl;rfl;(exact U9.o.f.2.1);kernel_rfl;(simp[Value.oneCell']);intro w9 HS9)
      have Z:=Jp.fin (v:=.mk 85 [] 0 ([])) (sl:=.slice none 0 0) U9.o.f hb0 HS9.o (U9.o.ks.mono fun c hc _=>by have:=U9.o.rV;omega);exact aC (v:=.agg (Em (.mk 85 [] 0 ([])) (.slice none 0 0)).toArray) (Ag results60 _ _ w.heap.size _ _ rfl Z.2.2 underlying42 rfl aJ) rfl ⟨_,_,t4,rfl,Z.1,by rw[Hqf.o];exact Z.2.1,by rw[Hqf.o];simp,by omega⟩
     |some z=>
      obtain⟨ez1,ez2⟩:=Hx9.o z rfl;obtain⟨zv,zt⟩:=z;simp only at ez1 ez2;subst ez1 ez2;have HqU:=Aa (Hq1.o.trans (by rw[HnF.o];rfl:_=(Ae 125 t4).map fun z=>(.mk 85 [] f.tag [y],z)));simp only[Option.isNone_some]at sq2;have x0:Wa.cell? (w9,0)=some (.int .u8 (y.what.toNat:Int)):=cd;have x1:Wa.cell? (w9,1)=y.text:=cd;have x2:Wa.cell? (w9,2)=(y.tag:Int):=cd;have x3:Wa.cell? (w9,3)=some (.slice A7 y.kids.length c7):=cd;have xl:w9.heap.size<Wa.heap.size:=by rw[HWa.o];simp
      have y09:=((U9.o.f.1.env HW.o hb).cell (p:=⟨x.blk,0,none⟩) hy0).trans HY1.o;have yl9:x.blk<w9.heap.size:=ab hy0 (U9.o.f.1.env HW.o hb).size;have fa:=Ab (Bj Hfr.o Ua.o.f.1.2 (fun e=>hfbn (Option.some.inj e))) 0 rfl;rw[Nat.add_zero]at fa;have lfa:fb<Wa.heap.size:=ab hfw Ua.o.f.1.2.size;have hVw:=Ua.o.rV;have hVl:=U9.o.v.lt;have Hfar:=@Aa (∀c,(c=fb\/c=w9.heap.size)->c<Wa.heap.size/\c≠V) (fun c hc=>by rcases hc with rfl|rfl<;>omega);go_wp2_with fail;rw[<-HWa.o]
      refine Z9 (fun l u W=>UvR V f.tag (y,.slice A7 y.kids.length c7) Wa (l 5) (l 7) (l 9) (u 5) W) (fun W=>(∀j,W.cell? ⟨fb,j,none⟩=Wa.cell? ⟨fb,j,none⟩)/\∀j,W.cell? ⟨w9.heap.size,j,none⟩=Wa.cell? ⟨w9.heap.size,j,none⟩) (fun l u W h=>by
       have hc:∀c,(c=fb\/c=w9.heap.size)->∀j,W.cell? ⟨c,j,none⟩=Wa.cell? ⟨c,j,none⟩:=fun c hc j=>by
        obtain⟨h1,h2⟩:=Hfar.o c hc;exact World.cell?_of_block (h.k.block c h1 h2 db)
       exact⟨hc _ (.inl rfl),hc _ (.inr rfl)⟩) ⟨C7.of_below (Ay _ _).drew,Ua.o.v.after (Ay _ _).drew,by simp,by simp⟩ ?_
      iterate 5 refine sq ?_
      refine Gy (fun _=>True) (by
       intro l u W hl hp hF hG hi K9 hK;have h9:=(hi.o 9 cx).1;simp[Region.binds,Ck]at hp;have h:UvR V f.tag (y,.slice A7 y.kids.length c7) Wa (l 5) (l 7) (l 9) (u 5) W:=hF.o;have hbb:Below W W (W.alloc (.cells (Dx (y,.slice A7 y.kids.length c7)).toArray 42)):=(Ay _ _).alloc (As _) _
       have H:=Aa (show UvR V f.tag (y,.slice A7 y.kids.length c7) Wa true (l 7) (l 9) (.slice (W,0) 1 1) (W.alloc (.cells (Dx (y,.slice A7 y.kids.length c7)).toArray 42))from
        ⟨h.k.trans (C7.of_below hbb),by have:=h.v.after hbb;rw[h9]at this ⊢;exact this,fun _=>⟨W.heap.size,rfl,h.k.size,by simp,Ch W _ _⟩,fun _=>rfl⟩)
       clear h h9 hbb hi;go_simp;exact hK _ _ _ Ad H.o bD) ?_
      refine sq ?_
      refine Gy (fun _=>True) (by
       intro l u W hl hp hF hG hi K9 hK;simp[Region.binds,Ck]at hp;have h:UvR V f.tag (y,.slice A7 y.kids.length c7) Wa (l 5) (l 7) (l 9) (u 5) W:=hF.o;have hc2:=h.v.c2;have hf2:=h.v.bk.live 2;have hVW:=h.v.lt
       have H:=Aa (show UvR V f.tag (y,.slice A7 y.kids.length c7) Wa (l 5) true (l 9) (u 5) (W.setCell ⟨V,2,none⟩ (f.tag:Int))from
        ⟨h.k.trans (C7.set (X:=(·=V)) rfl _),h.v.set2 _,fun e=>by obtain⟨g,e1,e2,e3,e4⟩:=h.r e;exact⟨g,e1,e2,by simpa using e3,Bj e4 (Ap W V 2 _) (fun e5=>by have e6:g=V:=Option.some.inj e5;omega)⟩,h.h⟩)
       clear h hi hG;go_simp;exact hK undef _ _ Ad H.o bX) ?_
      refine sq ?_
      refine Gy (fun _=>True) (by
       intro l u W hl hp hF hG hi K9 hK;simp[Region.binds,Ck]at hp;have h5:l 5=true:=bQ;have h:UvR V f.tag (y,.slice A7 y.kids.length c7) Wa (l 5) (l 7) (l 9) (u 5) W:=hF.o;obtain⟨g,e5,e2,e3,e4⟩:=h.r h5;have hc3:=h.v.c3;rw[hl]at hc3;simp only[ak,if_false]at hc3;have hf3:=h.v.bk.live 3;have hVW:=h.v.lt
       have H:=Aa (show UvR V f.tag (y,.slice A7 y.kids.length c7) Wa (l 5) (l 7) true (u 5) (W.setCell ⟨V,3,none⟩ (.slice (g,0) 1 1))from
        ⟨h.k.trans (C7.set (X:=(·=V)) rfl _),by have:=h.v.set3 (.slice (g,0) 1 1);rw[e5];exact this,fun e=>⟨g,e5,e2,by simpa using e3,Bj e4 (Ap W V 3 _) (fun e5=>by have e6:g=V:=Option.some.inj e5;omega)⟩,fun _=>h5⟩)
       clear h hi hG e2 e3 e4 h5;go_simp;exact hK undef _ _ Ad H.o di) ?_
      intro l u Wp hl _ hR;have hR:UvR V f.tag (y,.slice A7 y.kids.length c7) Wa (l 5) (l 7) (l 9) (u 5) Wp:=hR;obtain⟨g,e5,e2,e3,e4⟩:=hR.r (hl 5 aH);have hvp:=hR.v;rw[hl 7 aH,hl 9 aH,if_pos rfl,if_pos rfl,e5]at hvp;have hkp:=hR.k;have hown5:∀q,(Value.slice A5 ([]++[f.tag]:List Nat).length c5).ownBlock=some q->V<q/\q<Wa.heap.size:=fun q e=>by have:=Ua.o.sn.lt q e;omega
      have Up:=Aa (show Rx w b V p0 85 t4 false ([]++[f.tag]) [y] (.slice A5 ([]++[f.tag]:List Nat).length c5) (f.tag:Int) (.slice (g,0) 1 1) Wp from by
       have hgk:Wa.grownBy Wp (some V):=⟨hkp.os,hkp.tape,hkp.output,hkp.size,fun c hc hne=>hkp.block c hc (fun e=>hne (by rw[e])) db⟩
       refine⟨Ua.o.f.app hb0 hgk (fun k e=>by have e6:V=k:=Option.some.inj e;omega),Ua.o.rV,hvp,Ua.o.sn.kept hgk (.inr (Ua.o.own (As _))),Zo e3 e4 (((Hk9.o.after Hba.o)).grown hgk fun c hc e=>by have e6:c=V:=Option.some.inj e;omega) ⟨by omega,fun e=>by have:=(hown5 g e).2;omega⟩⟩)
      clear hl hR e2 e3 e4 hvp hkp hown5 x0 x1 x2 x3 sq2 fa y09;have Htk9:=Aa (fun W (h:Dp W b p0 t4 false)=>Dm b p0 t4 [44] false W h aE);go_wp2_with fail;refine(Htk9.o _ Up.o.f.1.1).mono ?_;rcases hc:Aj [44] t4 false with _|t5
      ·rintro e Wb ⟨rfl,hsb⟩;simp only[Option.getD_none]at hsb;have Ub:=Aa (Up.o.step hb0 hsb);clear hsb Htk9 hc;have Hw9:=Aa (fun W (h:Dp W b p0 t4 false)=>Bf b p0 t4 [125] false W h aE);go_wp2_with fail;refine(Hw9.o _ Ub.o.f.1.1).mono ?_;rintro e W9 ⟨rfl,hs9⟩;have U9:=Aa (Ub.o.step hb0 hs9);have hle9:=Cc 125 t4 false;have Hqf:=Aa ((show q=if (Aj [125] t4 false).isNone then none else some (.mk 85 [] f.tag [y],(Aj [125] t4 false).getD t4)by rw[HqU.o,Be];simp only[ak,if_false];cases Ae 125 t4<;>simp));clear hs9 Hw9;obtain⟨te,hte⟩:∃te,te=(Aj [125] t4 false).getD t4:=⟨_,rfl⟩
       obtain⟨be,hbe⟩:∃be,be=(Aj [125] t4 false).isNone:=⟨_,rfl⟩
       rw[<-hte]at U9 Hqf hle9;rw[<-hbe]at U9 Hqf;clear hte hbe;have fv:=U9.o.v;have d0:=fv.c0;have d1:=fv.c1;have d2:=fv.c2;have d3:=fv.c3;have dl:=fv.lt;clear fv;go_wp2_with ((with_reducible refine Ac (op:=⟨none,.store 42 _ _,_,_,_,none⟩) rfl 42 _ _ rfl w 0 [.int .u8 85,a8,(f.tag:Int),.slice (g,0) 1 1] ?_ ?_ ?_ ?_ ?_ ?_);rfl;rfl;(exact U9.o.f.2.1);kernel_rfl;(simp[Value.oneCell']);intro w9 HS9)
       have Z:=Jp.fin (v:=.mk 85 [] f.tag ([y])) (sl:=.slice (g,0) 1 1) U9.o.f hb0 HS9.o (U9.o.ks.mono fun c hc _=>by have:=U9.o.rV;omega);exact aC (v:=.agg (Em (.mk 85 [] f.tag ([y])) (.slice (g,0) 1 1)).toArray) (Ag results60 _ _ w.heap.size _ _ rfl Z.2.2 underlying42 rfl aJ) rfl ⟨_,_,te,rfl,Z.1,by rw[Hqf.o];cases be<;>exact Z.2.1,by rw[Hqf.o];cases be<;>simp,by omega⟩
      have hcl:=Eo hc
      have Hqn:=Aa (show q=none by
       have h44:Ae 44 t4=some t5:=by rw[Be]at hc;simpa using hc
       rw[HqU.o,Ax.1 h44,Bl aH];rfl)
      clear hc;rintro e Wb ⟨rfl,hsb⟩;simp only[Option.getD_some]at hsb;have Ub:=Aa (Up.o.step hb0 hsb);have c6:=Ub.o.f.1.1.2.2.2.1;clear hsb Htk9;go_wp2_with fail;go_roundw
      case rel=>exact⟨[]++[f.tag],[y],A5,some ⟨g,0,none⟩,([]++[f.tag]:List Nat).length,c5,1,1,f.tag,t5,false,by omega,by simp,by omega,c6,Ub.o,.inr ⟨rfl,(by intro m hm;simp at hm;omega),rfl,Hqn.o⟩⟩
      case measure=>simp[c1,c6,ByteArray.size];omega
  ·have Hqn:=Aa hqn;have Hts2:=Aa hts2;clear hI hqn hts2;obtain⟨g0,rfl⟩:=List.length_eq_one_iff.1 hts1;clear hts1;have hdl:=Nd Ao tt;have HN:=Aa (fun W (h:Dp W b p0 tt false)=>Pi b p0 tt false W h aE);have HFn:=Aa (fun W (hW:Below w0 w0 W)=>K0 w0 x Hix.o (tt.takeWhile Ao) W hW);have Hw2:=Aa (fun W (h:Dp W b p0 (tt.dropWhile Ao) false)=>Bf b p0 (tt.dropWhile Ao) [58] false W h aE);have hm3:=Cc 58 (tt.dropWhile Ao) false;obtain⟨t3,ht3⟩:∃t3,t3=(Aj [58] (tt.dropWhile Ao) false).getD (tt.dropWhile Ao):=⟨_,rfl⟩
   obtain⟨b3,hb3⟩:∃b3,b3=(Aj [58] (tt.dropWhile Ao) false).isNone:=⟨_,rfl⟩
   have Ht3:=Aa ht3;have Hb3:=Aa hb3;rw[<-ht3]at hm3;rw[<-ht3,<-hb3]at Hw2;obtain⟨fo,hfo⟩:∃fo,fo=Cx x.ty.fields (tt.takeWhile Ao):=⟨_,rfl⟩
   rw[<-hfo]at HFn;have Hfo:=Aa hfo;clear ht3 hb3 hfo;go_wp2_with fail;refine(HN.o _ U.o.f.1.1).mono ?_;rintro e W5 ⟨rfl,hs5⟩;have U5:=Aa (U.o.step hb0 hs5);clear hs5;go_wp2_with fail;refine(HFn.o _ (U5.o.f.1.env HW.o hb)).mono ?_;rintro e W6 ⟨fv,rfl,hfv,rfl⟩;go_wp2_with fail;refine(Hw2.o _ U5.o.f.1.1).mono ?_;rintro e W7 ⟨rfl,hs7⟩;have U7:=Aa (U5.o.step hb0 hs7);have q2:=U7.o.f.1.1.2.2.2.2;have qf:=U7.o.f.1.1.2.1.live 2;have ql:=U7.o.f.1.1.1;have U8:=Aa (U7.o.step hb0 ⟨U7.o.f.1.1.setBad true,Ap _ b 2 (.bool true)⟩);have y0:=((U7.o.f.1.env HW.o hb).cell (p:=⟨x.blk,0,none⟩) hy0).trans HY1.o;have yl:x.blk<W7.heap.size:=ab hy0 (U7.o.f.1.env HW.o hb).size;clear hs7 HN Hw2 HFn;cases fo with
   |none=>
    have hfv2:fv=.pointer none:=hfv;subst hfv2;have Hw9:=Aa (fun W (h:Dp W b p0 t3 true)=>Bf b p0 t3 [125] true W h aE);go_wp2_with fail;refine(Hw9.o _ U8.o.f.1.1).mono ?_;rintro e W9 ⟨rfl,hs9⟩;have U9:=@Aa (Rx w b V p0 85 t3 true _ _ _ _ _ W9) (U8.o.step hb0 cS);have Hqf:=Aa (Hqn.o:q=none);clear hs9 Hw9;have fv:=U9.o.v;have d0:=fv.c0;have d1:=fv.c1;have d2:=fv.c2;have d3:=fv.c3;have dl:=fv.lt;clear fv;go_wp2_with ((with_reducible refine Ac (op:=⟨none,.store 42 _ _,_,_,_,none⟩) rfl 42 _ _ rfl w 0 [.int .u8 85,a8,(tg:Int),.slice A2 n2 c2] ?_ ?_ ?_ ?_ ?_ ?_);rfl;rfl;(exact U9.o.f.2.1);kernel_rfl;(simp[Value.oneCell']);intro w9 HS9)
    exact j5
   |some f=>
    obtain⟨fb,fo',rfl,hfb,hfr⟩:=hfv;have hfm:=(Dd Hfo.o.symm).1;have hfd:=HF.o.1 f hfm;have hfw:fb<w.heap.size:=ab hfb HW.o.size;have hfbn:fb≠b:=aE;have Hfr:=@Aa (w.rangeAt fb fo' (Qx f)) (fun j v hv=>(World.cell?_of_block (a:=⟨fb,fo'+j,none⟩) (U5.o.f.1.2.block fb hfw (fun e=>hfbn (Option.some.inj e)))).symm.trans (hfr j v hv));have f0:=Ab (Bj Hfr.o U7.o.f.1.2 (fun e=>hfbn (Option.some.inj e))) 0 rfl;rw[Nat.add_zero]at f0;have lf:fb<W7.heap.size:=ab hfw U7.o.f.1.2.size;have hft:f.tag<=200:=hfd.2.1;have Hfd:=Aa hfd;clear hfr hfd
    have Hrow:=Aa (show B8 W7 A [g0].length (B6 [g0])by
     obtain⟨A6,c6,e6,hr6⟩:=B8.own U7.o.sn;injection e6 with e61 e62 e63;rw[e61];exact hr6)
    have HC:=Aa (Mf A c [g0] f.tag W7 Hrow.o aI aE Hts2.o);simp only[List.length_cons,List.length_nil,aj]at HC;obtain⟨nn,hnn⟩:∃nn,nn=decide (f.tag∈[g0]):=⟨_,rfl⟩
    rw[<-hnn]at HC;clear hnn Hrow;go_wp2_with fail;refine HC.o.mono ?_;rintro e W8 ⟨rfl,rfl⟩;cases nn with
    |true=>
     have Hw9:=Aa (fun W (h:Dp W b p0 t3 true)=>Bf b p0 t3 [125] true W h aE);go_wp2_with fail;refine(Hw9.o _ U8.o.f.1.1).mono ?_;rintro e W9 ⟨rfl,hs9⟩;have U9:=@Aa (Rx w b V p0 85 t3 true _ _ _ _ _ W9) (U8.o.step hb0 cS);have Hqf:=Aa (Hqn.o:q=none);clear hs9 Hw9;have fv:=U9.o.v;have d0:=fv.c0;have d1:=fv.c1;have d2:=fv.c2;have d3:=fv.c3;have dl:=fv.lt;clear fv;go_wp2_with ((with_reducible refine Ac (op:=⟨none,.store 42 _ _,_,_,_,none⟩) rfl 42 _ _ rfl w 0 [.int .u8 85,a8,(tg:Int),.slice A2 n2 c2] ?_ ?_ ?_ ?_ ?_ ?_);rfl;rfl;(exact U9.o.f.2.1);kernel_rfl;(simp[Value.oneCell']);intro w9 HS9)
     exact j5
    |false=>
     have Hw9:=Aa (fun W (h:Dp W b p0 t3 true)=>Bf b p0 t3 [125] true W h aE);go_wp2_with fail;refine(Hw9.o _ U8.o.f.1.1).mono ?_;rintro e W9 ⟨rfl,hs9⟩;have U9:=@Aa (Rx w b V p0 85 t3 true _ _ _ _ _ W9) (U8.o.step hb0 cS);have Hqf:=Aa (Hqn.o:q=none);clear hs9 Hw9;have fv:=U9.o.v;have d0:=fv.c0;have d1:=fv.c1;have d2:=fv.c2;have d3:=fv.c3;have dl:=fv.lt;clear fv;go_wp2_with ((with_reducible refine Ac (op:=⟨none,.store 42 _ _,_,_,_,none⟩) rfl 42 _ _ rfl w 0 [.int .u8 85,a8,(tg:Int),.slice A2 n2 c2] ?_ ?_ ?_ ?_ ?_ ?_);rfl;rfl;(exact U9.o.f.2.1);kernel_rfl;(simp[Value.oneCell']);intro w9 HS9)
     exact j5
theorem Qhd(w0:World)(b:Nat)(p:Value)(XS:List PT)(hsc:S7 w0 p XS)(t:List UInt8)(k:Kd)(dp:Nat)(hdp:dp<=12)(w:World)(hw:Below w0 w0 w)(hb:w0.heap.size<=b)(h:Dp w b p t false)(hl:t.length<=700)(hs:k.signs=[])(hbs:k.base=[64])(hk:C0 k)
  (x:PT) (hx:Ew XS k.name=some x) (h9:x.ty.sort=82) (q:Option (Vl × List UInt8)) (HT:∀W,Below w0 w0 W->Dp W b p t false->Calls prog 60 #[b,x.blk,(dp:Int)] W (Kx W b p t q)):
  Calls prog 24 #[b,Gb k,(dp:Int)] w (Kx w b p t q):=by
 have HT:=Aa HT;have HS:=Aa h;have HW:=Aa hw;have hb0:=h.1;have hbn:¬(b=w.heap.size):=aE;have hbn1:¬(b=w.heap.size+1):=aE;have s2:=h.2.2.2.2;have hkl:=Gs hk;obtain⟨pq,mb,rfl,hpq,hm,hnm⟩:=hsc.map;have hix:=hsc.tys x (Fi hx).1;obtain⟨hy0,_,hy1,_⟩:=id hix;have HL:=Aa (fun W (hW:Below w0 w0 W)=>Fq (Dv.below hnm hW) k.name aE);rw[hx]at HL;unfold Rc PT.ptr at HL;have Hix:=Aa hix;have Hs:=Aa hs;have t1:(k.base != [64])=false:=ep;have t2:(k.base == [64])=true:=ep;have HF0:=Aa (Ev.init (k:=k) HS.o (T:=39) (U:=42));rw[h9]at hy1;clear h hw hs hbs hsc hnm hk hix;unfold Gb at *;go_enter func24,ntmps24;go_wp2_with fail;generalize hwg:World.alloc (World.alloc w _) _=w1;have F1:=@Aa (Ev w b pq k t false w1) cj;clear hwg HF0 s2;have HSg:=Aa (El ⟨k.base.toArray⟩ ⟨k.name.toArray⟩ w1);rw[<-Hs.o]at HSg;refine HSg.o.mono ?_;rintro e w2 ⟨rfl,hb2⟩;have F2:=Aa (F1.o.post hb2);have k0:=Ab F2.o.2.1 0 rfl;have k1:=Ab F2.o.2.1 1 rfl;have k2:=Ab F2.o.2.1 2 rfl;simp only[aj]at k0 k1 k2;have hb20:=F2.o.1.env HW.o hb;have q0:=F2.o.1.1.2.2.1;have ql:=F2.o.1.1.1;have q1:=(hb20.cell (p:=⟨pq,1,none⟩) hpq).trans hm;have y0:=(hb20.cell (p:=⟨x.blk,0,none⟩) hy0).trans hy1;have l4:pq<w2.heap.size:=ab hpq hb20.size;have l5:x.blk<w2.heap.size:=ab hy0 hb20.size;have l6:w.heap.size<w2.heap.size:=dG;have H20:=Aa hb20;clear hb2 F1 HSg hm hy1 hb20;go_wp2_with fail;refine rgB ?_;iterate 9 refine sq ?_
 refine Gy (fun v=>v=x.blk) ?_ ?_
 ·exact g8
 refine sq ?_;refine dnB fun w3 HB=>?_;have F3:=Aa (F2.o.post HB.o);have H30:=Aa (H20.o.trans (HB.o.mono H20.o.size));replace y0:=(HB.o.cell (p:=⟨x.blk,0,none⟩) l5).trans y0
 replace l5:=ab l5 HB.o.size
 clear HB HL k0 k1 k2 q0 q1 ql l4 l6 F2 H20;go_wp2_with fail;refine(HT.o w3 H30.o F3.o.1.1).mono ?_;rintro e w4 ⟨v,sl,t',rfl,hk4,hs4,hx4,hl4⟩;obtain⟨A4,c4,rfl⟩:=hk4.form;have F4:=Aa (F3.o.step hb0 hs4);have K4:=Aa (hk4.mono (Q:=fun c=>w.heap.size+2<=c) fun c hc _=>by have:=F3.o.2.2.2;omega);clear hs4 y0;unfold Mg;go_wp2_with ((with_reducible refine Ac (op:=⟨none,.store 42 _ _,_,_,_,none⟩) rfl 42 _ _ rfl (w.heap.size+1) 0 (Em v (.slice A4 v.kids.length c4)) ?_ ?_ ?_ ?_ ?_ ?_);rfl;rfl;(exact F4.o.2.2.1);kernel_rfl;(simp[Em,Value.oneCell']);intro w9 HS9)
 exact j6
theorem Qhu(w0:World)(b:Nat)(p:Value)(XS:List PT)(hsc:S7 w0 p XS)(t:List UInt8)(k:Kd)(dp:Nat)(hdp:dp<=12)(w:World)(hw:Below w0 w0 w)(hb:w0.heap.size<=b)(h:Dp w b p t false)(hl:t.length<=700)(hs:k.signs=[])(hbs:k.base=[64])(hk:C0 k)
  (x:PT) (hx:Ew XS k.name=some x) (h9:x.ty.sort=85) (q:Option (Vl × List UInt8)) (HT:∀W,Below w0 w0 W->Dp W b p t false->Calls prog 60 #[b,x.blk,(dp:Int)] W (Kx W b p t q)):
  Calls prog 24 #[b,Gb k,(dp:Int)] w (Kx w b p t q):=by
 have HT:=Aa HT;have HS:=Aa h;have HW:=Aa hw;have hb0:=h.1;have hbn:¬(b=w.heap.size):=aE;have hbn1:¬(b=w.heap.size+1):=aE;have s2:=h.2.2.2.2;have hkl:=Gs hk;obtain⟨pq,mb,rfl,hpq,hm,hnm⟩:=hsc.map;have hix:=hsc.tys x (Fi hx).1;obtain⟨hy0,_,hy1,_⟩:=id hix;have HL:=Aa (fun W (hW:Below w0 w0 W)=>Fq (Dv.below hnm hW) k.name aE);rw[hx]at HL;unfold Rc PT.ptr at HL;have Hix:=Aa hix;have Hs:=Aa hs;have t1:(k.base != [64])=false:=ep;have t2:(k.base == [64])=true:=ep;have HF0:=Aa (Ev.init (k:=k) HS.o (T:=39) (U:=42));rw[h9]at hy1;clear h hw hs hbs hsc hnm hk hix;unfold Gb at *;go_enter func24,ntmps24;go_wp2_with fail;generalize hwg:World.alloc (World.alloc w _) _=w1;have F1:=@Aa (Ev w b pq k t false w1) cj;clear hwg HF0 s2;have HSg:=Aa (El ⟨k.base.toArray⟩ ⟨k.name.toArray⟩ w1);rw[<-Hs.o]at HSg;refine HSg.o.mono ?_;rintro e w2 ⟨rfl,hb2⟩;have F2:=Aa (F1.o.post hb2);have k0:=Ab F2.o.2.1 0 rfl;have k1:=Ab F2.o.2.1 1 rfl;have k2:=Ab F2.o.2.1 2 rfl;simp only[aj]at k0 k1 k2;have hb20:=F2.o.1.env HW.o hb;have q0:=F2.o.1.1.2.2.1;have ql:=F2.o.1.1.1;have q1:=(hb20.cell (p:=⟨pq,1,none⟩) hpq).trans hm;have y0:=(hb20.cell (p:=⟨x.blk,0,none⟩) hy0).trans hy1;have l4:pq<w2.heap.size:=ab hpq hb20.size;have l5:x.blk<w2.heap.size:=ab hy0 hb20.size;have l6:w.heap.size<w2.heap.size:=dG;have H20:=Aa hb20;clear hb2 F1 HSg hm hy1 hb20;go_wp2_with fail;refine rgB ?_;iterate 9 refine sq ?_
 refine Gy (fun v=>v=x.blk) ?_ ?_
 ·exact g8
 refine sq ?_;refine dnB fun w3 HB=>?_;have F3:=Aa (F2.o.post HB.o);have H30:=Aa (H20.o.trans (HB.o.mono H20.o.size));replace y0:=(HB.o.cell (p:=⟨x.blk,0,none⟩) l5).trans y0
 replace l5:=ab l5 HB.o.size
 clear HB HL k0 k1 k2 q0 q1 ql l4 l6 F2 H20;go_wp2_with fail;refine(HT.o w3 H30.o F3.o.1.1).mono ?_;rintro e w4 ⟨v,sl,t',rfl,hk4,hs4,hx4,hl4⟩;obtain⟨A4,c4,rfl⟩:=hk4.form;have F4:=Aa (F3.o.step hb0 hs4);have K4:=Aa (hk4.mono (Q:=fun c=>w.heap.size+2<=c) fun c hc _=>by have:=F3.o.2.2.2;omega);clear hs4 y0;unfold Mg;go_wp2_with ((with_reducible refine Ac (op:=⟨none,.store 42 _ _,_,_,_,none⟩) rfl 42 _ _ rfl (w.heap.size+1) 0 (Em v (.slice A4 v.kids.length c4)) ?_ ?_ ?_ ?_ ?_ ?_);rfl;rfl;(exact F4.o.2.2.1);kernel_rfl;(simp[Em,Value.oneCell']);intro w9 HS9)
 exact j6
theorem Yd{S:List Ty}(hS:∀t∈S,Ed t){d:Nat}{k:Kd}(hk:C0 k){s:List UInt8}{v:Vl}{r:List UInt8}(h:B2 S d k s=some (v,r)):r.length<s.length/\(s.length<=700->Bd v):=by
 obtain⟨h1,h2,h3⟩:=Qc hS d k hk s v r h;exact⟨h2,fun hl=>Qel hS d k v h1 aE⟩
theorem Qh4(w0:World)(b:Nat)(p:Value)(XS:List PT)(hsc:S7 w0 p XS)(hok:No (Af XS))(hb:w0.heap.size<=b):∀(d:Nat) (k:Kd),C0 k->B9 (Af XS) k->IuC w0 b p (Af XS) d k:=by
 intro d;induction d with
 |zero=>
  intro k hk hr t bad w dp hdp hw h hl;have e:(if bad=true then none else B2 (Af XS) 0 k t)=none:=by cases bad<;>rfl
  rw[e];exact Qci b p t bad k dp aE (.inr aE) w h
 |succ d ih=>
  intro k hk hr t bad w dp hdp hw h hl;cases bad with
  |true=>
   rw[if_pos rfl];exact Qci b p t true k dp aE (.inl rfl) w h
  |false=>
   rw[if_neg aH];have hS:=hok.1.1;cases hs:k.signs with
   |cons c r=>
    have hkp:=(Gh hk).1;have hrp:B9 (Af XS) k.part:=hr;rcases Kb hk hs with rfl|rfl
    ·exact Qeu w0 b p (Af XS) d t k r dp hdp w hw hb h hl hs hk (ih k.part hkp hrp) fun s v r h=>(Yd hS hkp h).1
    exact Qg0 w0 b p (Af XS) d t k r dp hdp w hw hb h hl hs hk (ih k.part hkp hrp)
   |nil=>
    by_cases hbs:k.base=[64]
    ·obtain⟨ty,ht⟩:=Option.isSome_iff_exists.1 (hr hbs);obtain⟨x,hx,rfl⟩:=Qff ht;have hto:=hS x.ty (Bq ht).1;have hq:B2 (Af XS) (d+1) k t=Jn (Af XS) (B2 (Af XS) d) x.ty t:=by
      conv=>lhs;unfold B2
      rw[hs];simp only;rw[if_pos hbs,ht]
     rw[hq];have hix:=hsc.tys x (Fi hx).1;by_cases h9:x.ty.sort=69
     ·exact Qhj w0 b p XS hsc d t k dp aE w hw hb h hl hs hbs hk x hx h9 (fun f hf=>by have:=(hto.2.2.1.1 f hf).2.1;omega) (B2 (Af XS) d) _ rfl
     have hf:∀f∈x.ty.fields,C0 f.kind/\B9 (Af XS) f.kind:=fun f hf=>⟨(Js hS ht h9 hf).1,hok.2.1 x.ty (Bq ht).1 h9 f hf⟩
     have h28:x.ty.sort=82\/x.ty.sort=85:=by
      have:=hto.1;unfold Dj at this;rcases this with h|h|h
      ·exact .inl h
      ·exact .inr h
      exact absurd h h9
     rcases h28 with h2|h5
     ·exact Qhd w0 b p XS hsc t k dp aE w hw hb h hl hs hbs hk x hx h2 _ fun W hW hS1=>Qhk w0 b p XS hsc hok d t dp hdp W hW hb hS1 hl x hix h2 hto.2.2.1 (fun f h=>(hf f h).2) hto.2.2.2.1 (fun f h=>ih f.kind (hf f h).1 (hf f h).2) (fun f h s v r hp=>Yd hS (hf f h).1 hp) _ rfl
     exact Qhu w0 b p XS hsc t k dp aE w hw hb h hl hs hbs hk x hx h5 _ fun W hW hS1=>Qg5 w0 b p XS d t dp hdp W hW hb hS1 hl x hix h5 hto.2.2.1 (fun f h=>ih f.kind (hf f h).1 (hf f h).2) _ rfl
    have hq:B2 (Af XS) (d+1) k t=Ak (Af XS) 1000 1 k t:=by
     conv=>lhs;unfold B2
     rw[hs];simp only;rw[if_neg hbs]
    rw[hq];exact Qfh w0 b p (Af XS) t k dp aE w hw hb h hl hs hbs hk (Qa8 w0 b p XS hsc hok hb 901 aH k hk hr)
theorem Qc4(P:Nat->Prop)(v:Vl)(hb:Bd v)(hd:Dw v)(h12:Nh v<=12)(sl:Value)(w:World)(h:D1 P w sl v.kids)(hl:(Au v).length<=1000000):
  Calls prog 25 #[Mg v sl] w fun e w'=>e=.returned (.bool (decide ((Au v).length<=400)))/\Below w w w':=by
 have HP:=Aa (fun W (hW:Below w w W)=>Nb P hb sl W (h.after hW));have HD:=Aa (fun W (hW:Below w w W)=>Qeb P hd sl W (h.after hW) aE);obtain⟨A,c,rfl⟩:=h.form;generalize Au v=px at *;generalize Nh v=dv at *;unfold Mg at *;clear h hb hd;obtain⟨w1,hw1⟩:∃w1,w1=w.alloc (.cells #[.int .u8 (v.what.toNat:Int),v.text,(v.tag:Int),.slice A v.kids.length c] 42):=⟨_,rfl⟩
 have hb1:Below w w w1:=by rw[hw1];exact(Ay _ _).alloc (As _) _
 have y0:w1.cell? (w,0)=some (.int .u8 (v.what.toNat:Int)):=dQ;have y1:w1.cell? (w,1)=v.text:=dQ;have y2:w1.cell? (w,2)=(v.tag:Int):=dQ;have y3:w1.cell? (w,3)=some (.slice A v.kids.length c):=dQ;have l1:w.heap.size<w1.heap.size:=dh;have Hw1:=Aa hw1;have Hb1:=Aa hb1;clear hw1 hb1;by_cases h4:px.length<=400
 ·have t1:decide ((px.length:Int)<=400)=true:=aA aE;have t2:decide ((dv:Int)<=12)=true:=aA aE;have hE:=Aa (aA h4);go_enter func25,ntmps25;go_wp2_with fail;rw[<-Hw1.o];refine(HP.o w1 Hb1.o).mono ?_;rintro e w2 ⟨rfl,hb2⟩;have Hb2:=Aa (Hb1.o.trans (hb2.mono Hb1.o.size));replace y0:=(hb2.cell (p:=⟨w.heap.size,0,none⟩) l1).trans y0
  replace y1:=(hb2.cell (p:=⟨w.heap.size,1,none⟩) l1).trans y1
  replace y2:=(hb2.cell (p:=⟨w.heap.size,2,none⟩) l1).trans y2
  replace y3:=(hb2.cell (p:=⟨w.heap.size,3,none⟩) l1).trans y3
  replace l1:=ab l1 hb2.size
  clear hb2;go_wp2_with fail;refine(HD.o w2 Hb2.o).mono ?_;rintro e w3 ⟨rfl,hb3⟩;have Hb3:=Aa (Hb2.o.trans (hb3.mono Hb2.o.size));clear hb3;go_wp2_with fail;go_ret;exact⟨by rw[hE.o];rfl,Hb3.o⟩
 have t1:decide ((px.length:Int)<=400)=false:=az aE;have hE:=Aa (az h4);have h5:400<px.length:=aE;clear h4;go_enter func25,ntmps25;go_wp2_with fail;rw[<-Hw1.o];refine(HP.o w1 Hb1.o).mono ?_;rintro e w2 ⟨rfl,hb2⟩;have Hb2:=Aa (Hb1.o.trans (hb2.mono Hb1.o.size));clear hb2;go_wp2_with fail;go_ret;exact⟨by rw[hE.o];rfl,Hb2.o⟩
theorem Qgl(s d x:List UInt8)(w:World)(hs:s.length<=4000000)(hd:d.length<=4000000)(hx:x.length<=4000000):
  Calls prog 11 #[s,d,x] w (T7 (Qa2 (D3 s d) x) w):=by
 have Hbo:=Aa (fun W=>Qdn s d W hs hd);have HGo:=Aa (fun S k (h:D3 s d=some (S,k))=>P6 h);generalize D3 s d=o at *;go_enter func11,ntmps11;go_wp2_with fail;refine(Hbo.o w).mono ?_;rintro e w1 ⟨hcase,hb1⟩;have Hb1:=Aa hb1;clear hb1 Hbo;cases o with
 |none=>
  obtain⟨p,a,b,c,rfl⟩:=hcase;have HE:=Aa (show Qa2 none x=none by unfold Qa2;split<;>rfl);go_wp2_with fail;go_ret2;rw[HE.o];exact⟨rfl,Hb1.o.alloc Hb1.o.size _⟩
 |some y=>
  obtain⟨S,k⟩:=y;obtain⟨p,xs,hxs,rfl,hsl⟩:=hcase;obtain⟨hok,_,_,hk,_,href⟩:=HGo.o S k rfl;simp only at hxs;subst hxs;have hsc:=hsl.isc;obtain⟨pq,_,rfl,_⟩:=hsc.map;unfold Gb;by_cases h600:600<x.length
  ·have HE:=@Aa (Qa2 (some (Af xs,k)) x=none) (if_pos h600);have t1:decide ((600:Int)<(x.length:Int))=true:=aA aE;clear hsl hsc hok hk href HGo;go_wp2_with fail;go_ret2;rw[HE.o];exact⟨rfl,Hb1.o.alloc Hb1.o.size _⟩
  have HE:=@Aa (Qa2 (some (Af xs,k)) x=(B2 (Af xs) 12 k x).bind fun z=>if z.2=[]/\(Au z.1).length<=400 then some (Au z.1)else none) (if_neg h600);have t1:decide ((600:Int)<(x.length:Int))=false:=az aE;have hS:=hok.1.1;have hx6:x.length<=600:=aE;obtain⟨W0,hW0⟩:∃W0,W0=w1.alloc (.cells #[k.signs,k.base,k.name] 39):=⟨_,rfl⟩
  have hb10:Below w1 w1 W0:=by rw[hW0];exact(Ay _ _).alloc (As _) _
  obtain⟨W2,hW2⟩:∃W2,W2=W0.alloc (.cells #[pq,x,.bool false] 56):=⟨_,rfl⟩
  have hb02:Below W0 W0 W2:=by rw[hW2];exact(Ay _ _).alloc (As _) _
  have hscn:Dp W2 W0.heap.size pq x false:=by
   refine⟨by rw[hW2];simp,by rw[hW2];exact Mu.new _ _ _,by rw[hW2];simp[go_sem],by rw[hW2];simp[go_sem],by rw[hW2];simp[go_sem]⟩
  have hz0:W0.heap.size=w1.heap.size+1:=by rw[hW0];simp
  have HU:=Aa (Qh4 W0 W0.heap.size pq xs (hsc.below hb10) hok (As _) 12 k hk href x false W2 1 rfl hb02 hscn aE);rw[if_neg aH]at HU;have HP:=Aa (fun v r (h:B2 (Af xs) 12 k x=some (v,r))=>Qc hS 12 k hk x v r h);have HBd:=Aa (fun v r (h:B2 (Af xs) 12 k x=some (v,r))=>(Yd hS hk h).2 aE);generalize B2 (Af xs) 12 k x=rr at *;have Hb2:=Aa (Hb1.o.trans ((hb10.trans (hb02.mono hb10.size)).mono Hb1.o.size));have HW2:=Aa (show (w1.alloc (.cells #[k.signs,k.base,k.name] 39)).alloc (.cells #[pq,x,.bool false] 56)=W2 by rw[hW2,hW0]);have HB:=@Aa (W0.heap.size=w1.heap.size+1) hz0;rw[HB.o]at HU;unfold Gb at HU;clear hsl hsc hok hk href HGo hW0 hW2 hb10 hb02 hscn hz0 hS h600;go_wp2_with fail;rw[HW2.o];refine HU.o.mono ?_;rintro e w3 ⟨v,sl,t',rfl,hk3,hs3,hx3,hl3⟩;obtain⟨A3,c3,rfl⟩:=hk3.form;have Hs3:=Aa hs3;have Hk3:=Aa hk3;have Hx3:=Aa hx3;have s1:=hs3.1.2.2.2.1;have s2:=hs3.1.2.2.2.2;have s0:=hs3.1.1;obtain⟨w4,hw4⟩:∃w4,w4=w3.alloc (.cells #[.int .u8 (v.what.toNat:Int),v.text,(v.tag:Int),.slice A3 v.kids.length c3] 42):=⟨_,rfl⟩
  have hb34:Below w3 w3 w4:=by rw[hw4];exact(Ay _ _).alloc (As _) _
  have hb4:Below w w w4:=(Hb2.o.grown hs3.2 Hb2.o.size (fun q e=>by have e2:w1.heap.size+1=q:=Option.some.inj e;have:=Hb1.o.size;omega)).trans (hb34.mono (by have:=Hb2.o.size;have:=hs3.2.size;omega));have Hb4:=Aa hb4;have y0:w4.cell? (w3,0)=some (.int .u8 (v.what.toNat:Int)):=dR;have y1:w4.cell? (w3,1)=v.text:=dR;have y2:w4.cell? (w3,2)=(v.tag:Int):=dR;have y3:w4.cell? (w3,3)=some (.slice A3 v.kids.length c3):=dR;have l4:w3.heap.size<w4.heap.size:=by rw[hw4];simp
  have Hk4:=Aa (hk3.after hb34);have Hw4:=Aa hw4;clear hw4 hb34 hb4 hs3 hk3 hx3 HU;unfold Mg;cases rr with
  |none=>
   have HE2:=Aa (HE.o.trans (rfl:_=none));simp only[Option.isNone_none]at s2;clear y0 y1 y2 y3 l4;go_wp2_with fail;rw[Hw4.o.symm];go_ret2;rw[HE2.o];exact⟨rfl,Hb4.o⟩
  |some z=>
   obtain⟨zv,zt⟩:=z;obtain⟨e1,e2⟩:=Hx3.o (zv,zt) rfl;simp only at e1 e2;subst e1 e2;simp only[Option.isNone_some]at s2;obtain⟨hvk,hlt,hlen⟩:=HP.o v t' rfl;have HBd:=Aa (HBd.o v t' rfl);have hlen2:(Au v).length<=1000000:=aE;have HF:=Aa (fun W (hW:Below w4 w4 W)=>Qc4 _ v HBd.o hvk.dw ((J3 _ _ _ _ hvk 12).1 hvk) (.slice A3 v.kids.length c3) W (Hk4.o.after hW) hlen2);have HPr:=Aa (fun W (hW:Below w4 w4 W)=>Nb _ HBd.o (.slice A3 v.kids.length c3) W (Hk4.o.after hW));unfold Mg at HF HPr;clear hvk hlt;by_cases ht:t'=[]
   ·subst ht;by_cases h4:(Au v).length<=400
    ·have HE2:=Aa (HE.o.trans (if_pos ⟨rfl,h4⟩:_=some (Au v)));rw[aA h4]at HF;generalize Au v=px at *;clear h4;go_wp2_with fail;rw[Hw4.o.symm];refine(HF.o w4 (Ay _ _)).mono ?_;rintro e w5 ⟨rfl,hb5⟩;have Hb5:=Aa hb5;replace y0:=(hb5.cell (p:=⟨w3.heap.size,0,none⟩) l4).trans y0
     replace y1:=(hb5.cell (p:=⟨w3.heap.size,1,none⟩) l4).trans y1
     replace y2:=(hb5.cell (p:=⟨w3.heap.size,2,none⟩) l4).trans y2
     replace y3:=(hb5.cell (p:=⟨w3.heap.size,3,none⟩) l4).trans y3
     replace l4:=ab l4 hb5.size
     clear hb5 HF;go_wp2_with fail;refine(HPr.o w5 Hb5.o).mono ?_;rintro e w6 ⟨rfl,hb6⟩;have Hb6:=Aa (Hb4.o.trans ((Hb5.o.trans (hb6.mono Hb5.o.size)).mono Hb4.o.size));clear hb6;go_wp2_with fail;go_ret2;rw[HE2.o];exact⟨rfl,Hb6.o⟩
    have HE2:=Aa (HE.o.trans (if_neg (fun h=>h4 h.2):_=none));rw[az h4]at HF;generalize Au v=px at *;clear h4;go_wp2_with fail;rw[Hw4.o.symm];refine(HF.o w4 (Ay _ _)).mono ?_;rintro e w5 ⟨rfl,hb5⟩;have Hb5:=Aa (Hb4.o.trans (hb5.mono Hb4.o.size));clear hb5 HF y0 y1 y2 y3 l4;go_wp2_with fail;go_ret2;rw[HE2.o];exact⟨rfl,Hb5.o⟩
   have HE2:=Aa (HE.o.trans (if_neg (fun h=>ht h.1):_=none));have t5:(!t'.isEmpty)=true:=d7;have t6:t'.isEmpty=false:=d7;clear ht y0 y1 y2 y3 l4 HF HPr;go_wp2_with fail;rw[Hw4.o.symm];go_ret2;rw[HE2.o];exact⟨rfl,Hb4.o⟩
end
end Go.Proofs.YtkigmebejmmikaaGreatDoor
