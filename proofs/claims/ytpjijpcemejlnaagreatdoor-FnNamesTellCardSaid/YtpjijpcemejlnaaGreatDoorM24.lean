/- Texts joined. Conditions: as each theorem names them. -/
import Derived.Deep.CutRange
import Derived.Deep.DeepCutAuto
import Derived.Test.YtpjijpcemejlnaaGreatDoorM23
set_option maxRecDepth 100000
set_option maxHeartbeats 32000000
set_option linter.unusedVariables false
set_option linter.unusedSimpArgs false
namespace Go.Proofs.YtpjijpcemejlnaaGreatDoor
open Go.RowKit Go.Proofs.Tryz
section
attribute [local go_sem] Qkk Qj0 Qjm Qhu ByteArray.mk_append_mk
inductive Dw:Vl->Prop
 |fd {tx:List UInt8} {tg:Nat} {x:Vl} (h:Dw x):Dw (.mk 61 tx tg [x])
 |no {w:UInt8} {tx:List UInt8} {tg:Nat} {ks:List Vl} (hw:w≠61) (h:∀x∈ks,Dw x):Dw (.mk w tx tg ks)
theorem Gy.dw{S:List Ty}:∀{d:Nat} {k:Kd} {v:Vl},Gy S d k v->Dw v:=by
 intro d;induction d with
 |zero=>intro k v h;cases h
 |succ d ih=>
  intro k v h;cases h with
  |n=>exact .no aL aM
  |t=>exact .no aL aM
  |f=>exact .no aL aM
  |lst hs hl h=>exact .no aL fun x hx=>ih (h x hx)
  |non=>exact .no aL aM
  |som hs h=>exact .no aL fun x hx=>by rw[aq]at hx;subst hx;exact ih h
  |enm=>exact .no aL aM
  |uni hs hb ht h5 hf h=>exact .no aL fun x hx=>by rw[aq]at hx;subst hx;exact ih h
  |rcd hs hb ht h2 hf h hn hp=>
   refine .no aL fun x hx=>?_;obtain⟨p,hp,rfl⟩:=ax.1 hx;exact .fd (ih (h p hp))
theorem Yt(x:Vl):∀l:List Vl,Gz (l++[x])=max (Gz l) (Kt x)
 |[]=>by simp[Gz]
 |y::l=>by rw[av,Gz,Yt x l,Gz];omega
theorem Qeo(P:Nat->Prop){v:Vl}(hd:Dw v):∀(sl:Value) (w:World),Fb P w sl v.kids->Kt v<=100000 ->
  Calls prog 106 #[Np v sl] w fun e w'=>e=.returned (.int .i64 (Kt v:Int))/\Below w w w':=by
 induction hd with
 |@fd tx tg x hx ih=>
  intro sl w h hl;obtain⟨A,c,xs,rfl,hks,hlx,hr,hP,hk⟩:=h;obtain⟨⟨y,ys⟩,rfl⟩:∃a,xs=[a]:=by
   cases xs with
   |nil=>simp[Bb,Vl.kids]at hks
   |cons a l=>cases l with
    |nil=>exact⟨a,rfl⟩
    |cons b l=>simp[Bb,Vl.kids]at hks
  obtain rfl:x=y:=by simpa [Bb,Vl.kids]using hks
  have hdp:Kt (.mk 61 tx tg [x])=Kt x:=by simp[Kt,Gz]
  rw[hdp]at hl ⊢;have hkx:=hk (x,ys) aM;obtain⟨A7,c7,e7⟩:=hkx.form;simp only at e7;subst e7;obtain⟨b,off,rfl,hb,d0,d1,d2,d3⟩:=Fb.at_ hr (show 0<1 by decide);simp only[List.getElem_cons_zero,Nat.zero_mul,Nat.add_zero]at d0 d1 d2 d3;have Hkx:=Aa hkx;have Ih:=Aa (fun W h=>ih (.slice A7 x.kids.length c7) W h hl);have hbn:¬(b=w.heap.size):=aH;generalize Kt x=n at *;unfold Np at Ih ⊢;clear hk hr hP hks hkx ih;simp only[Vl.what,Vl.text,Vl.tag,List.length_singleton];go_enter func106,ntmps106;go_wp2_with fail;refine(Ih.o _ (Hkx.o.after ((At _ _).alloc (Ao _) _))).mono ?_;rintro e w1 ⟨rfl,hb1⟩;have Hb1:=Aa (((At w.heap.size w).alloc (Ao _) _).trans (hb1.mono aM));clear hb1;go_wp2_with fail;go_ret;exact⟨rfl,Hb1.o⟩
 |@no wh tx tg ks hw hks ih=>
  intro sl w h hl;have t61:((wh.toNat:Int) == 61)=false:=Aq (d:=61) hw;have hdp:Kt (.mk wh tx tg ks)=Gz ks+1:=by rw[Kt,if_neg hw]
  rw[hdp]at hl ⊢;simp only[Vl.kids]at h;obtain⟨A,c,xs,rfl,rfl,hlx,hr,hP,hk⟩:=h;have Hdp:=Aa hdp;have Hr:=Aa hr;have Hk:=Aa hk;have Hle:=Aa ((Tj (Bb xs) 100000).1 aH);have Ih:=Aa (fun x hx s W h=>ih x hx s W h (Hle.o x hx));clear hr hk hP ih hks hw;unfold Np;simp only[Vl.what,Vl.text,Vl.tag];have hxl:(Bb xs).length=xs.length:=by simp[Bb]
  have HF:=Aa (rfl:Bb xs=xs.map (·.1));go_enter func106,ntmps106;go_wp2_with fail;obtain⟨w1,hw1⟩:∃w1,w1=w.alloc (.cells #[.int .u8 (wh.toNat:Int),tx,(tg:Int),.slice A xs.length c] 47):=⟨_,rfl⟩
  rw[<-hw1];have Hb1:=Aa (show Below w w w1 by rw[hw1];exact(At _ _).alloc (Ao _) _);have hz1:w.heap.size<w1.heap.size:=dK;have Hr1:=Aa (Hr.o.below Hb1.o);have Hk1:=Aa (fun x hx=>(Hk.o x hx).after Hb1.o);clear hw1 Hr Hk;go_loopw [17,3] (fun i u wr=>∃m:Nat,i=.int .i64 m/\u=.int .i64 (Gz ((xs.take m).map (·.1)):Int)/\m<=xs.length/\Hid (Gz ((xs.take m).map (·.1))<=100000)/\Hid (Below w1 w1 wr)) (fun i _ _=>xs.length - (intOf i).toNat)
  case atStart=>exact⟨0,rfl,rfl,ah _,ah _,At _ _⟩
  case round=>
   obtain⟨m,rfl,rfl,hm,hdm,Hbr⟩:=hrel;have m1:(0:Int)<=(m:Int):=aH;by_cases hlt:m<xs.length
   ·have m2:(m:Int)<(xs.length:Int):=aH;obtain⟨b,off,rfl,hb,d0,d1,d2,d3⟩:=Fb.at_ (Hr1.o.below Hbr.o) hlt;have Hkx:=Aa ((Hk1.o _ (af hlt)).after Hbr.o);have Hmx:=@Aa (xs[m].1∈Bb xs) (ap (af hlt));have Hts:=Aa (Bt xs m hlt);have hsz:w1.heap.size<=wr.heap.size:=Hbr.o.size;have hbn:¬(b=wr.heap.size):=aH;generalize xs[m]=x at *;obtain⟨y,ys⟩:=x;obtain⟨A7,c7,e7⟩:=Hkx.o.form;simp only at e7 d0 d1 d2 d3 Hkx Hmx;subst e7;have hyl:=Hle.o y Hmx.o;have Hx:=Aa (fun W=>Ih.o y Hmx.o (.slice A7 y.kids.length c7) W);have Hsn:=Aa (show Gz ((xs.take (m+1)).map (·.1))=max (Gz ((xs.take m).map (·.1))) (Kt y)by rw[Hts.o,az];exact Yt y _);unfold Np at Hx;have hdm':=hdm.o;generalize Gz ((xs.take m).map (·.1))=q at *;generalize Kt y=n at *;go_wp2_with fail;refine(Hx.o _ (Hkx.o.after ((At _ _).alloc (Ao _) _))).mono ?_;rintro e w3 ⟨rfl,hb3⟩;have Hb3:=Aa (((At wr.heap.size wr).alloc (Ao _) _).trans (hb3.mono aM));clear hb3;go_wp2_with fail;go_roundw
    case rel=>exact⟨m+1,by go_num,by rw[Hsn.o];congr 1;omega,by omega,by rw[Hsn.o];show max q n<=100000;omega,Hbr.o.trans (Hb3.o.mono hsz)⟩
    case measure=>simp[intOf];omega
   ·obtain rfl:m=xs.length:=aH;have Hb6:=Aa (Hb1.o.trans (Hbr.o.mono aH));have HD:=Aa (show Gz ((xs.take xs.length).map (·.1))=Gz (Bb xs)by rw[List.take_length];rfl);have hd2:=hdm.o;generalize Gz ((xs.take xs.length).map (·.1))=q at *;go_wp2_with fail;go_ret;exact⟨Qij (by have:=HD.o;have:=Hdp.o;omega),Hb6.o⟩
theorem Qf2{st:UInt8}{f:Fd}(h:Te st f):f.given.length<=14:=by
 by_cases hs:st=69
 ·rw[(h.2.2.2.1 hs).2];simp
 by_cases hg:f.given=[]
 ·rw[hg];simp
 have:=((h.2.2.2.2 hs).2 hg).2.2;unfold Bx at this;split at this
 ·exact i7
 split at this
 ·exact gT
 split at this
 ·simp only[decide_eq_true_eq]at this;rw[this];simp
 cases this
theorem Qc1(w0:World)(b N:Nat)(p:Value)(XS:List PT)(hsc:Xc w0 p XS)(t:List UInt8)(k:Kd)(w:World)(hw:Below w0 w0 w)(hb:w0.heap.size<=b)(h:Fw w b p t false)(hl:t.length<=900)(hs:k.signs=[])(hbs:k.base=[64])(hnm:k.name.length<=100)
  (x:PT) (hxf:Ex XS k.name=some x) (q:Option (Vl × List UInt8)) (HO:∀W,Below w0 w0 W->Fw W b p t false->Calls prog 145 #[b,.pointer (some ⟨x.blk,0,none⟩)] W (Kc W b p t (N+1) q)):
  Calls prog 102 #[b,J2 k] w (Kc w b p t (N+1) q):=by
 have HH:=Aa HO;obtain⟨pb,A,c,mb,rfl,hpb,hc0,hc1,_,hnd,_,_⟩:=hsc
 have HN:=Aa (fun W (h:Below w0 w0 W)=>show (Instr.lookup 156 (.map (some mb)) k.name false).run prog W=.ok (.pointer (some ⟨x.blk,0,none⟩)) W from by
  have:=Je (Dm.below hnd h) k.name aH;rw[hxf]at this;exact this)
 have HM:=Aa (fun W (h:Below w0 w0 W)=>(h.cell (p:=⟨pb,1,none⟩) hpb).trans hc1);have HS:=Aa h;have HW:=Aa hw;have hb0:=h.1;have hbn:¬(b=w.heap.size):=aH;have hbn2:¬(b=w.heap.size+1):=aH;have c2:=h.2.2.2.2;obtain⟨sg,bs,nm⟩:=k;simp only at hs hbs HN;subst hs hbs;unfold J2;simp only;clear h hw hxf HO hc0 hc1 hnd;go_enter func102,ntmps102;go_wp2_with fail;refine(Jb _ _ _).mono ?_;rintro e w2 ⟨rfl,hb2⟩;have F2:=Aa ((Kh.init (k:=⟨[],[64],nm⟩) HS.o).post hb2);clear hb2 c2;have k0:=Ac F2.o.2.1 0 rfl;have k1:=Ac F2.o.2.1 1 rfl;have k2:=Ac F2.o.2.1 2 rfl;simp only[an]at k0 k1 k2;go_wp2_with fail;have hlz:=F2.o.2.2.2;have SP:=Aa F2.o.1.1.2.2.1;have hbz:=F2.o.1.1.1;refine Be [52,53,54,55,56,57,58,59,60,61,62,63,999] aP aP aP (fun u=>by dsimp only[Br,Bk,List.set,an,Nat.reduceAdd])
  (fun ix v W=>match ix with|0=>v=b|1=>v=b|2=>v=b|3=>v=b|4=>v=pb|5=>v=pb|6=>v=(pb,1)|7=>v=.map (some mb)|8=>v=(w,2)|9=>v=nm|10=>v=.pointer (some ⟨x.blk,0,none⟩)|11=>∃x s,v=Np x s|_=>True)
  (fun L U W=>(L 11=false->Below w2 w2 W)/\(L 11=true->L 12=false->∃v sl t',U 11=Np v sl/\Fb (fun c=>w.heap.size+2<=c) W sl v.kids/\Kh w b pb ⟨[],[64],nm⟩ t' q.isNone W/\(∀x,q=some x->v=x.1/\t'=x.2)/\Bd v/\t'.length<=t.length/\(Bh v).length+t'.length<=t.length+8*(N+1)) /\
  (L 12=true->∃v sl,Kc w b pb t (N+1) q (.returned (.agg (Ha v sl).toArray)) W/\W.rangeAt (w.heap.size+1) 0 (Ha v sl))) (fun _ _=>True) (fun _ _ _ _ _ h=>h) (⟨fun _=>(At _ _).drew,fun h=>Bool.noConfusion h,fun h=>Bool.noConfusion h⟩) ?_ ?_
 ·repeat (first|exact An.nil|(refine An.cons ?_ ?_;rotate_left))
  all_goals
   rintro L U W hL hpre hR hun hdep K hK;have HR:=Aa hR;obtain⟨R1,R2,R3⟩:=HR.o;have Hdep:=Aa hdep;clear hun hdep hR;first|(simp[Region.binds]at hpre;done)|simp[Region.binds]at hpre|clear hpre
  iterate 4
   ·exact fK
  ·have h5:L 5=false:=Bi Hdep.o 5 4 rfl hL;have h6:L 6=false:=Bi Hdep.o 6 5 rfl h5;have h7:L 7=false:=Bi Hdep.o 7 6 rfl h6;have h10:L 10=false:=Bi Hdep.o 10 7 rfl h7;have h11:L 11=false:=Bi Hdep.o 11 10 rfl h10;have hB:=R1 h11;have hW2:=(F2.o.post hB).1.env HW.o hb;have p0:W.cell? (b,0)=pb:=(hB.cell (p:=⟨b,0,none⟩) hbz).trans SP.o;exact ju
  iterate 2
   ·exact fK
  ·have h10:L 10=false:=Bi Hdep.o 10 7 rfl hL;have h11:L 11=false:=Bi Hdep.o 11 10 rfl h10;have hB:=R1 h11;have hW2:=(F2.o.post hB).1.env HW.o hb;have m1:=HM.o W hW2;exact ju
  ·exact fK
  ·have h10:L 10=false:=Bi Hdep.o 10 9 rfl hL;have h11:L 11=false:=Bi Hdep.o 11 10 rfl h10;have hB:=R1 h11;have hW2:=(F2.o.post hB).1.env HW.o hb;have n2:W.cell? (w,2)=nm:=(hB.cell (p:=⟨w.heap.size,2,none⟩) (show w.heap.size<_ by omega)).trans k2;exact ju
  ·have h11:L 11=false:=Bi Hdep.o 11 10 rfl hL;have hB:=R1 h11;have hW2:=(F2.o.post hB).1.env HW.o hb;have hlk:=HN.o W hW2;exact ju
  ·have h12:L 12=false:=Bi Hdep.o 12 11 rfl hL;have hB:=R1 hL;have F3:=F2.o.post hB;go_simp;refine(HH.o W (F3.1.env HW.o hb) F3.1.1).mono ?_;rintro e w5 ⟨v,sl,t',rfl,hk5,hs5,hx5,hB5,hl5,hn5⟩;exact hK (Np v sl) _ _ ⟨v,sl,rfl⟩ Ab ⟨fun h=>by simp at h,fun _ _=>⟨v,sl,t',rfl,hk5.mono fun c hc _=>(by have:=hB.size;omega),F3.step hb0 hs5,hx5,hB5,hl5,hn5⟩,fun h=>absurd (h12.symm.trans aS) aL⟩ aJ
  ·have l11:L 11=true:=hpre.1.1;obtain⟨v,sl,t',u11,hk5,F5,hx5,hB5,hl5,hn5⟩:=R2 l11 hL;obtain⟨A7,c7,rfl⟩:=hk5.form;have Z:=Kh.fin (w9:=W.setCells (w.heap.size+1) 0 (Ha v (.slice A7 v.kids.length c7))) (t:=t) (N:=N+1) (v:=v) (sl:=.slice A7 v.kids.length c7) (r:=q) F5 hb0 rfl hk5 rfl hx5 hB5 hl5 hn5;rw[if_pos di];refine wp_store_mid 47 _ _ rfl (w.heap.size+1) 0 (Ha v (.slice A7 v.kids.length c7)).toArray rfl u11 F5.2.2.1 aP (by simp[Ha,Value.oneCell']) ?_;exact hK undef _ _ Ab Ab ⟨fun h=>absurd (l11.symm.trans aS) aL,fun _ h=>by simp at h,fun _=>⟨v,_,Z.1,Z.2⟩⟩ rfl
 rintro L U W hL hφ hR;clear hφ;obtain⟨_,_,h3⟩:=hR;obtain⟨v,sl,Z1,Z2⟩:=h3 (hL 12 aL);clear hL h3;go_wp2_with fail;exact aF (v:=.agg (Ha v sl).toArray) (Az results102 _ _ (w.heap.size+1) _ _ rfl Z2 underlying47 rfl aP) rfl Z1
theorem Qcg(w0:World)(b N:Nat)(p:Value)(S:List Ty)(t:List UInt8)(k:Kd)(w:World)(hw:Below w0 w0 w)(hb:w0.heap.size<=b)(h:Fw w b p t false)(hl:t.length<=900)(hN:t.length<=N)(hN2:N<=2000)(sg:List UInt8)(hs:k.signs=91::sg)(hsl:sg.length<=100)
  (H:IvC w0 b p S N k.part) (HG:∀s v r,Al S 1000 N k.part s=some (v,r)->s=Bh v++r) (q:Option (Vl × List UInt8)) (hq:q=S7 (Al S 1000 N k.part) 1000 t):
  Calls prog 102 #[b,J2 k] w (Kc w b p t (N+1) q):=by
 have HL:=Aa (fun W (h1:Below w0 w0 W) (h2:Fw W b p t false)=>Qer w0 b N p S t k.part W h1 hb h2 hl hN hN2 H HG q hq);have HP:=Aa (fun W=>Ye k W 91 sg hs aH);have HS:=Aa h;have HW:=Aa hw;have hb0:=h.1;have hbn:¬(b=w.heap.size):=aH;have hbn2:¬(b=w.heap.size+1):=aH;have c2:=h.2.2.2.2;obtain⟨sg',bs,nm⟩:=k;simp only at hs;subst hs;generalize hkp:(⟨91::sg,bs,nm⟩:Kd).part=kp at *;unfold J2 at HP ⊢ HL;simp only at HP ⊢;clear h hq hw H HG hkp;go_enter func102,ntmps102;go_wp2_with fail;refine(Kk 91 sg aH _ _ _).mono ?_;rintro e w2 ⟨rfl,hb2⟩;have F2:=Aa ((Kh.init (k:=⟨91::sg,bs,nm⟩) HS.o).post hb2);clear hb2 c2;have k0:=Ac F2.o.2.1 0 rfl;have k1:=Ac F2.o.2.1 1 rfl;have k2:=Ac F2.o.2.1 2 rfl;simp only[an]at k0 k1 k2;go_wp2_with fail;refine(HP.o _).mono ?_;rintro e w3 ⟨rfl,hb3⟩;have F3:=Aa (F2.o.post hb3);clear hb3 k0 k1 k2;go_wp2_with fail;refine(HL.o _ (F3.o.1.env HW.o hb) F3.o.1.1).mono ?_;rintro e w4 ⟨v,sl,t',rfl,hk4,hs4,hx4,hB4,hl4,hn4⟩;obtain⟨A7,c7,rfl⟩:=hk4.form;have F4:=Aa (F3.o.step hb0 hs4);have hz3:=F3.o.2.2.2;have Hk4:=Aa hk4;have Hx4:=Aa hx4;have HB4:=Aa hB4;clear hs4 hk4 hx4 hB4;unfold Np;go_wp2_with ((with_reducible refine Ae (op:=⟨none,.store 47 _ _,_,_,_,none⟩) rfl 47 _ _ rfl (w.heap.size+1) 0 (Ha v (.slice A7 v.kids.length c7)) ?_ ?_ ?_ ?_ ?_ ?_);rfl;rfl;(exact F4.o.2.2.1);kernel_rfl;(simp[Ha,Value.oneCell']);intro w9 HS9)
 have Z:=Kh.fin (t:=t) (N:=N+1) (v:=v) (sl:=.slice A7 v.kids.length c7) (r:=q) F4.o hb0 HS9.o (Hk4.o.mono fun c hc _=>by omega) rfl Hx4.o HB4.o hl4 hn4;exact aF (v:=.agg (Ha v (.slice A7 v.kids.length c7)).toArray) (Az results102 _ _ (w.heap.size+1) _ _ rfl Z.2 underlying47 rfl aP) rfl Z.1
theorem Qcx(w0:World)(b:Nat)(p:Value)(XS:List PT)(hsc:Xc w0 p XS)(hS:Nn (Ai XS))(hb:w0.heap.size<=b):∀(N:Nat),N<=2000->∀(k:Kd),Cu k->B9 (Ai XS) k->IvC w0 b p (Ai XS) N k:=by
 intro N;induction N with
 |zero=>
  intro _ k hk hr t bad w hw h hl hN;cases bad with
  |true=>exact V8 b 0 p t k w h
  |false=>exact absurd (hN rfl) (Nat.not_lt_zero _)
 |succ N ih=>
  intro hN2 k hk hr t bad w hw h hl hN;cases bad with
  |true=>exact V8 b (N+1) p t k w h
  |false=>
   have hN:=Nat.le_of_lt_succ (hN rfl);rw[if_neg aL];have hTy:∀t∈Ai XS,Ek t:=hS.1.1;unfold Al;cases hs:k.signs with
   |cons c sg=>
    simp only;have hsl:sg.length<=100:=by have:=hk.2.2;unfold Bn at this;rw[hs]at this;simp at this;omega
    have hp:=(Pm hk).1;have hrp:B9 (Ai XS) k.part:=hr;rcases Nw hk hs with rfl|rfl
    ·rw[if_pos rfl];exact Qcg w0 b N p (Ai XS) t k w hw hb h hl hN aH sg hs hsl (ih aH k.part hp hrp) (fun s v r h=>(Fo hTy 1000 N k.part s v r hp h).2) _ rfl
    rw[if_neg aL];exact Qcf w0 b N p (Ai XS) t k w hw hb h hl hN aH sg hs hsl (ih aH k.part hp hrp) _ rfl
   |nil=>
    simp only;by_cases h1:k.base=[110]
    ·rw[if_pos h1];exact Qgo b N p t k w h hl hs h1 _ rfl
    rw[if_neg h1];by_cases h2:k.base=[116]
    ·rw[if_pos h2];exact Qf5 b N p t k w h hl hs h2 _ rfl
    rw[if_neg h2];by_cases h3:k.base=[102]
    ·rw[if_pos h3];exact Qgu b N p t k w h hl hs h3 _ rfl
    rw[if_neg h3];have h64:k.base=[64]:=by
     rcases hk.2.1 with h|⟨h|h|h,_⟩
     ·exact h.1
     ·exact absurd h h1
     ·exact absurd h h2
     exact absurd h h3
    have hnm:k.name.length<=100:=by
     rcases hk.2.1 with h|⟨_,h⟩
     ·have:=(Dp.1 h.2).2.1;omega
     rw[h];simp
    have hr2:=hr h64;rw[Jt]at hr2 ⊢;cases hx:Ex XS k.name with
    |none=>rw[hx]at hr2;cases hr2
    |some x=>
     simp only[Option.map_some];have hxm:=(Gx hx).1;have hxt:=(Gx hx).2.2;have hxi:Rg w0 x:=by obtain⟨_,_,_,_,_,_,_,_,_,_,h6,_⟩:=hsc;exact h6 x hxm
     have hto:=hTy x.ty (ap hxm);refine Qc1 w0 b N p XS hsc t k w hw hb h hl hs h64 hnm x hx _ fun W hW hSc=>?_;have htg:∀f∈x.ty.fields,f.tag<=200:=fun f hf=>(hto.2.2.1.1 f hf).2.1;by_cases h9:x.ty.sort=69
     ·exact Qha w0 b N p (Ai XS) x hxi h9 t W hW hb hSc hl _ rfl
     have hfk:∀f∈x.ty.fields,Cu f.kind/\B9 (Ai XS) f.kind/\f.given.length<=1000:=fun f hf=>
      ⟨(Ya hTy hxt h9 hf).1,hS.2.1 x.ty (Bv hxt).1 h9 f hf,by have:=Qf2 (hto.2.2.1.1 f hf);omega⟩
     have HF:∀f∈x.ty.fields,IvC w0 b p (Ai XS) N f.kind:=fun f hf=>ih aH f.kind (hfk f hf).1 (hfk f hf).2.1;by_cases h5:x.ty.sort=85
     ·exact Qhj w0 b N p (Ai XS) x hxi h5 t W hW hb hSc hl hN aH htg HF _ rfl
     have h82:x.ty.sort=82:=by
      rcases hto.1 with h|h|h
      ·exact h
      ·exact absurd h h5
      exact absurd h h9
     exact Qg2 w0 b N p XS hsc hS x hxi h82 t W hW hb hSc hl hN aH htg hfk HF (fun f hf s v r h=>(Fo hTy 1000 N f.kind s v r (hfk f hf).1 h).2) _ rfl
def Qk(o:Option Vl)(w:World)(e:Ending)(w':World):Prop:=
 (∃v sl,e=.returned (.tuple #[Np v sl,.bool o.isSome])/\Fb (fun b=>w.heap.size<=b) w' sl v.kids/\∀x,o=some x->v=x)/\Below w w w'
theorem Qk.no{o:Option Vl}{w w':World}{e:Ending}(ho:o=none)(he:e=.returned (.tuple #[Np Fq (.slice none 0 0),.bool false]))(hb:Below w w w'):Qk o w e w':=by
 subst ho;exact⟨⟨Fq,_,he,Fb.nil _ _,by simp⟩,hb⟩
theorem Qft(p:Value)(XS:List PT)(hS:Nn (Ai XS))(k:Kd)(hk:Cu k)(hr:B9 (Ai XS) k)(s:List UInt8)(w:World)(hsc:Xc w p XS)(hs:s.length<=4000000):
  Calls prog 73 #[p,J2 k,s] w (Qk (J1 (Ai XS) k s) w):=by
 have hTy:∀t∈Ai XS,Ek t:=hS.1.1;by_cases hl:400<s.length
 ·have HQ:=Aa (show J1 (Ai XS) k s=none by unfold J1;rw[if_pos hl]);have t1:decide ((400:Int)<(s.length:Int))=true:=aD aH;have TH:=Ct (w.alloc (.cells #[k.signs,k.base,k.name] 62)) [.int .u8 0,aa,.int .i64 0,.slice none 0 0] 47;simp at TH;have BL:Below w w ((w.alloc (.cells #[k.signs,k.base,k.name] 62)).alloc (.cells #[.int .u8 0,aa,.int .i64 0,.slice none 0 0] 47)):=((At _ _).alloc (Ao _) _).alloc aM _;unfold J2;go_enter func73,ntmps73;go_wp2_with ((with_reducible refine Ae (op:=⟨none,.store 47 _ _,_,_,_,none⟩) rfl 47 _ _ rfl (w.heap.size+1) 0 [.int .u8 0,aa,.int .i64 0,.slice none 0 0] ?_ ?_ ?_ ?_ ?_ ?_);rfl;rfl;(exact TH);kernel_rfl;(simp[Ha,Value.oneCell']);intro w9 HS9)
  have HZ:=(by rw[HS9.o];exact ac _ _ _ _ (TH):w9.rangeAt (w.heap.size+1) 0 (Ha Fq (.slice none 0 0)))
  refine aF (v:=.tuple #[.agg (Ha Fq (.slice none 0 0)).toArray,.bool false]) (As results73 _ _ (w.heap.size+1) _ _ _ rfl rfl HZ underlying47 rfl aP) rfl ?_;exact Qk.no HQ.o rfl (by rw[HS9.o];exact Aj _ aH _ _ _ BL)
 have HQ0:=Aa (Qe1 hTy hk (by omega:s.length<=400) 1000 500 aH aH);have t1:decide ((400:Int)<(s.length:Int))=false:=aC aH;have HG:=Aa (fun v r=>Fo hTy 1000 500 k s v r hk);have HV:=Aa (fun w0 b (h0:Xc w0 p XS) hb W (hW:Below w0 w0 W) (h2:Fw W b p s false)=>Qcx w0 b p XS h0 hS hb 500 aH k hk hr s false W hW h2 aH (fun _=>by omega));simp only[ao,if_false]at HV;generalize J1 (Ai XS) k s=q at *;generalize hrd:Al (Ai XS) 1000 500 k s=rd at *;have Hsc:=Aa hsc;obtain⟨pb,_,_,_,rfl,_⟩:=hsc;unfold J2 at HV ⊢;clear hrd hS hk hr hTy;go_enter func73,ntmps73;go_wp2_with fail;obtain⟨W1,hW1⟩:∃W1,W1=(w.alloc (.cells #[k.signs,k.base,k.name] 62)).alloc (.cells #[.int .u8 0,aa,.int .i64 0,.slice none 0 0] 47):=⟨_,rfl⟩
 rw[<-hW1];have hz1:W1.heap.size=w.heap.size+2:=cM;have B1:=Aa (show Below w w W1 by rw[hW1];exact((At _ _).alloc (Ao _) _).alloc aM _);have T1:=Aa (show W1.there (w.heap.size+1) 0 4 by rw[hW1];have:=Ct (w.alloc (.cells #[k.signs,k.base,k.name] 62)) [.int .u8 0,aa,.int .i64 0,.slice none 0 0] 47;simpa using this);clear hW1;obtain⟨W2,hW2⟩:∃W2,W2=W1.alloc (.cells #[pb,s,.bool false] 80):=⟨_,rfl⟩
 have hb2:Below W1 W1 W2:=by rw[hW2];exact(At _ _).alloc (Ao _) _
 have S2:=@Aa (Fw W2 W1.heap.size pb s false) (by rw[hW2];exact⟨by simp,Qb.new _ _ _,by simp,by simp,by simp⟩);rw[hz1]at S2;rw[<-hW2];refine(HV.o W1 (w.heap.size+1+1) (Hsc.o.below B1.o) aH W2 hb2 S2.o).mono ?_;rintro e w3 ⟨v,sl,t',rfl,hk3,hs3,hx3,hB3,hl3,hn3⟩;obtain⟨A7,c7,rfl⟩:=hk3.form;have hz2:W1.heap.size<W2.heap.size:=by rw[hW2];simp
 have T3:=Aa (Gv (Au T1.o aH hb2) hs3.2 aH aM);have B3:=@Aa (Below w w w3) ((B1.o.trans (hb2.mono aH)).grown hs3.2 aH (fun k e=>by injection e with e;omega));have S3:=Aa hs3.1;have hz3:W2.heap.size<=w3.heap.size:=hs3.2.size;have Hk3:=Aa hk3;have Hx3:=Aa hx3;have T4:=Aa (fun o=>Au T3.o aH ((At w3.heap.size w3).alloc (Ao _) o));have B4:=Aa (fun o=>B3.o.alloc B3.o.size o);clear hs3 hk3 hx3 HV hW2 hb2 T1 B1 hB3;unfold Np;have c1:=S3.o.2.2.2.1;have c2:=S3.o.2.2.2.2;have hbw:=S3.o.1;have hbn:¬(w.heap.size+1+1=w3.heap.size):=aH;cases rd with
 |none=>
  have HQ:=@Aa (q=none) HQ0.o;simp only[Option.isNone_none]at c2;go_wp2_with ((with_reducible refine Ae (op:=⟨none,.store 47 _ _,_,_,_,none⟩) rfl 47 _ _ rfl (w.heap.size+1) 0 [.int .u8 0,aa,.int .i64 0,.slice none 0 0] ?_ ?_ ?_ ?_ ?_ ?_);rfl;rfl;(exact T4.o _);kernel_rfl;(simp[Ha,Value.oneCell']);intro w9 HS9)
  have HZ:=(by rw[HS9.o];exact ac _ _ _ _ (T4.o _):w9.rangeAt (w.heap.size+1) 0 (Ha Fq (.slice none 0 0)))
  refine aF (v:=.tuple #[.agg (Ha Fq (.slice none 0 0)).toArray,.bool false]) (As results73 _ _ (w.heap.size+1) _ _ _ rfl rfl HZ underlying47 rfl aP) rfl ?_;exact Qk.no HQ.o rfl eL
 |some y=>
  obtain⟨v0,r⟩:=y;obtain⟨rfl,rfl⟩:=Hx3.o _ rfl;have hv:=(HG.o v t' rfl).1;simp only[Option.isNone_some]at c2;have hd5:Kt v<=500:=(Fl _ _ _ _ hv 500).1 hv;have HD:=Aa (fun W (h:Below w3 w3 W)=>Qeo _ hv.dw (.slice A7 v.kids.length c7) W (Hk3.o.after h) aH);unfold Np at HD;cases ht:t' with
  |cons c u=>
   rw[ht]at HQ0 c1;have HQ:=@Aa (q=none) HQ0.o;clear ht;go_wp2_with ((with_reducible refine Ae (op:=⟨none,.store 47 _ _,_,_,_,none⟩) rfl 47 _ _ rfl (w.heap.size+1) 0 [.int .u8 0,aa,.int .i64 0,.slice none 0 0] ?_ ?_ ?_ ?_ ?_ ?_);rfl;rfl;(exact T4.o _);kernel_rfl;(simp[Ha,Value.oneCell']);intro w9 HS9)
   have HZ:=(by rw[HS9.o];exact ac _ _ _ _ (T4.o _):w9.rangeAt (w.heap.size+1) 0 (Ha Fq (.slice none 0 0)))
   refine aF (v:=.tuple #[.agg (Ha Fq (.slice none 0 0)).toArray,.bool false]) (As results73 _ _ (w.heap.size+1) _ _ _ rfl rfl HZ underlying47 rfl aP) rfl ?_;exact Qk.no HQ.o rfl eL
  |nil=>
   rw[ht]at HQ0 c1;have HQ1:=@Aa (q=if Kt v<=12 then some v else none) HQ0.o;clear ht hv;go_wp2_with fail;refine(HD.o _ ((At _ _).alloc (Ao _) _)).mono ?_;rintro e w5 ⟨rfl,hb5⟩;have hb5':Below w3 w3 w5:=((At w3.heap.size w3).alloc (Ao _) _).trans (hb5.mono aM);have T5:=Aa (Au T3.o aH hb5');have B5:=Aa (B3.o.trans (hb5'.mono B3.o.size));have X5:=Aa (Ax (Cj w3 (Ha v (.slice A7 v.kids.length c7)) 47) aM hb5);have hz5:=hb5'.size;have d0:=Ac X5.o 0 rfl;have d1:=Ac X5.o 1 rfl;have d2:=Ac X5.o 2 rfl;have d3:=Ac X5.o 3 rfl;simp only[an]at d0 d1 d2 d3;have Hk5:=Aa (Hk3.o.after hb5');clear hb5 hb5';by_cases h12:Kt v<=12
   ·have t2:decide ((12:Int)<(Kt v:Int))=false:=aC aH;have HQ:=Aa (show q=some v by rw[HQ1.o,if_pos h12]);clear HQ1 HQ0;generalize Kt v=n at *;go_wp2_with ((with_reducible refine Ae (op:=⟨none,.store 47 _ _,_,_,_,none⟩) rfl 47 _ _ rfl (w.heap.size+1) 0 (Ha v (.slice A7 v.kids.length c7)) ?_ ?_ ?_ ?_ ?_ ?_);rfl;rfl;(exact T5.o);kernel_rfl;(simp[Ha,Value.oneCell']);intro w9 HS9)
    have HZ:w9.rangeAt (w.heap.size+1) 0 (Ha v (.slice A7 v.kids.length c7)):=by rw[HS9.o];exact ac _ _ _ _ T5.o
    refine aF (v:=.tuple #[.agg (Ha v (.slice A7 v.kids.length c7)).toArray,.bool true]) (As results73 _ _ (w.heap.size+1) _ _ _ rfl rfl HZ underlying47 rfl aP) rfl ?_;rw[HQ.o,HS9.o];exact⟨⟨v,_,rfl,(Hk5.o.set (B:=w.heap.size+1) aH _).mono (fun c hc _=>by omega),by simp⟩,Aj _ aH _ _ _ B5.o⟩
   have t2:decide ((12:Int)<(Kt v:Int))=true:=aD aH;have HQ:=Aa (show q=none by rw[HQ1.o,if_neg h12]);clear HQ1 HQ0;generalize Kt v=n at *;go_wp2_with ((with_reducible refine Ae (op:=⟨none,.store 47 _ _,_,_,_,none⟩) rfl 47 _ _ rfl (w.heap.size+1) 0 [.int .u8 0,aa,.int .i64 0,.slice none 0 0] ?_ ?_ ?_ ?_ ?_ ?_);rfl;rfl;(exact T5.o);kernel_rfl;(simp[Ha,Value.oneCell']);intro w9 HS9)
   have HZ:=(by rw[HS9.o];exact ac _ _ _ _ (T5.o):w9.rangeAt (w.heap.size+1) 0 (Ha Fq (.slice none 0 0)))
   refine aF (v:=.tuple #[.agg (Ha Fq (.slice none 0 0)).toArray,.bool false]) (As results73 _ _ (w.heap.size+1) _ _ _ rfl rfl HZ underlying47 rfl aP) rfl ?_;exact Qk.no HQ.o rfl (by rw[HS9.o];exact Aj _ aH _ _ _ B5.o)
section
variable {P:Program}
theorem P5{fn:Func}{r p p2 q:Tmp}{ty ty2:TypeId}(h:fn.results=#[.tmp r,.cell p ty,.cell p2 ty2,.tmp q])(tmps:Array Value)(w:World)(b b2:Nat)(cs cs2:List Value)(d d2:TypeDesc)(y x:Value)
  (hr:tmps.getD r undef=y) (hp:tmps.getD p undef=b) (hp2:tmps.getD p2 undef=b2) (hq:tmps.getD q undef=x) (hc:w.rangeAt b 0 cs) (hc2:w.rangeAt b2 0 cs2)
  (hu:P.underlying ty=some d) (hd:d.isRow=true) (hi:(P.info? ty).map (·.size)=some cs.length) (hu2:P.underlying ty2=some d2) (hd2:d2.isRow=true) (hi2:(P.info? ty2).map (·.size)=some cs2.length):
  (results fn tmps).run P w=.ok (.tuple #[y,.agg cs.toArray,.agg cs2.toArray,x]) w:=by
 have hp':tmps[p]?.getD undef=b:=eN;have hp2':tmps[p2]?.getD undef=b2:=by simpa using hp2
 have hq':tmps[q]?.getD undef=x:=by simpa using hq
 have hr':tmps[r]?.getD undef=y:=dU;simp[results,h,hp',hp2',hq',hr',asAddr,run_loadVar_mid w b 0 ty cs d hc hu hd hi,run_loadVar_mid w b2 0 ty2 cs2 d2 hc2 hu2 hd2 hi2]
end
theorem T6.low{lo lo':Nat}{w:World}{p:Value}{xs:List PT}(h:T6 lo w p xs)(hl:lo'<=lo):T6 lo' w p xs:=by
 obtain⟨b,A,c,mb,e,h0,h1,h2,h3,h4,h5,h6,l1,l2,l3,l4⟩:=h;exact⟨b,A,c,mb,e,h0,h1,h2,h3,h4,h5,h6,by omega,by omega,fun g o hn e=>by have:=l3 g o hn e;omega,fun x hx=>⟨by have:=(l4 x hx).1;omega,fun k hn hk=>by have:=(l4 x hx).2 k hn hk;omega⟩⟩
def Sf(o:Option (List Ty × Kd))(x:List UInt8)(w:World)(e:Ending)(w':World):Prop:=
 (∃p k1 k2 k3 v sl,e=.returned (.tuple #[.pointer p,.agg #[.string k1,.string k2,.string k3],Np v sl,.bool (Tz o x).isSome])/\Fb (fun c=>w.heap.size<=c) w' sl v.kids /\
  ∀y,Tz o x=some y->v=y/\∃S k xs,o=some (S,k)/\Ai xs=S/\k1=⟨k.signs.toArray⟩/\k2=⟨k.base.toArray⟩/\k3=⟨k.name.toArray⟩/\T6 w.heap.size w' (.pointer p) xs)/\Below w w w'
theorem Sf.no{o:Option (List Ty × Kd)}{x:List UInt8}{w w':World}{e:Ending}(ho:Tz o x=none){p:Option Addr}{k1 k2 k3:ByteArray}{v:Vl}{sl:Value}(he:e=.returned (.tuple #[.pointer p,.agg #[.string k1,.string k2,.string k3],Np v sl,.bool false]))(hs:Fb (fun c=>w.heap.size<=c) w' sl v.kids)(hb:Below w w w'):Sf o x w e w':=by
 refine⟨⟨p,k1,k2,k3,v,sl,by rw[ho];exact he,hs,fun y hy=>?_⟩,hb⟩;rw[ho]at hy;cases hy
theorem Qct(s d x:List UInt8)(w:World)(hs:s.length<=4000000)(hd:d.length<=4000000)(hx:x.length<=4000000):
  Calls prog 42 #[s,d,x] w (Sf (C0 s d) x w):=by
 have Hbo:=Aa (fun W=>Qfs s d W hs hd);have HGo:=Aa (fun S k (h:C0 s d=some (S,k))=>M5 h);generalize C0 s d=o at *;go_enter func42,ntmps42;go_wp2_with fail;obtain⟨W1,hW1⟩:∃W1,W1=(w.alloc (.cells #[aa,aa,aa] 62)).alloc (.cells #[.int .u8 0,aa,.int .i64 0,.slice none 0 0] 47):=⟨_,rfl⟩
 rw[<-hW1];have hz1:W1.heap.size=w.heap.size+2:=cM;have B1:=Aa (show Below w w W1 by rw[hW1];exact((At _ _).alloc (Ao _) _).alloc aM _);have TK1:=Aa (show W1.there w 0 3 by rw[hW1];exact ar (Ct w [aa,aa,aa] 62) _);have TV1:=Aa (show W1.there (w.heap.size+1) 0 4 by rw[hW1];have:=Ct (w.alloc (.cells #[aa,aa,aa] 62)) [.int .u8 0,aa,.int .i64 0,.slice none 0 0] 47;simpa using this);clear hW1;refine(Hbo.o W1).mono ?_;rintro e W2 ⟨hcase,hb2⟩;have hz2:=hb2.size;have TK2:=Aa (Au TK1.o aH hb2);have TV2:=Aa (Au TV1.o aH hb2);have B2:=Aa (B1.o.trans (hb2.mono aH));clear hb2;cases o with
 |none=>
  obtain⟨p,a,b,c,rfl⟩:=hcase;obtain⟨W3,hW3⟩:∃W3,W3=W2.alloc (.cells #[.string a,.string b,.string c] 62):=⟨_,rfl⟩
  have hb3:Below W2 W2 W3:=fe;have TK3:=Aa (Au TK2.o aH hb3);have TV3:=Aa (Au TV2.o aH hb3);have B3:=Aa (B2.o.trans (hb3.mono B2.o.size));have HW3:=Aa hW3;clear hb3 hW3;go_wp2_with (first|((with_reducible refine Ae (op:=⟨none,.store 62 _ _,_,_,_,none⟩) rfl 62 _ _ rfl w 0 [aa,aa,aa] ?_ ?_ ?_ ?_ ?_ ?_);rfl;rfl;(rw[<-HW3.o];exact TK3.o);kernel_rfl;(simp[Value.oneCell']);intro w8 HS8)|((with_reducible refine Ae (op:=⟨none,.store 47 _ _,_,_,_,none⟩) rfl 47 _ _ rfl (w.heap.size+1) 0 [.int .u8 0,aa,.int .i64 0,.slice none 0 0] ?_ ?_ ?_ ?_ ?_ ?_);rfl;rfl;(rw[HS8.o,<-HW3.o];exact aj TV3.o _ _ _);kernel_rfl;(simp[Value.oneCell']);intro w9 HS9))
  rw[<-HW3.o]at HS8;have TV8:=Aa (show w8.there (w.heap.size+1) 0 4 by rw[HS8.o];exact aj TV3.o _ _ _);have RK8:=Aa (show w8.rangeAt w 0 [aa,aa,aa]by rw[HS8.o];exact ac _ _ _ _ TK3.o);have B8:=Aa (show Below w w w8 by rw[HS8.o];exact Aj _ (Ao _) _ _ _ B3.o);have RK9:=(by rw[HS9.o];exact am RK8.o _ _ _ (.inl aH):w9.rangeAt w 0 [aa,aa,aa])
  have RV9:=(by rw[HS9.o];exact ac _ _ _ _ TV8.o:w9.rangeAt (w.heap.size+1) 0 [.int .u8 0,aa,.int .i64 0,.slice none 0 0])
  refine aF (v:=.tuple #[.pointer none,.agg ([aa,aa,aa]:List Value).toArray,.agg ([.int .u8 0,aa,.int .i64 0,.slice none 0 0]:List Value).toArray,.bool false]) ?_ rfl ?_
  ·exact P5 results42 _ _ w.heap.size (w.heap.size+1) _ _ _ _ _ _ rfl rfl rfl rfl RK9 RV9 underlying62 rfl aP underlying47 rfl aP
  exact Sf.no (v:=Fq) (sl:=.slice none 0 0) rfl rfl (Fb.nil _ _) (by rw[HS9.o];exact Aj _ aH _ _ _ B8.o)
 |some y=>
  obtain⟨S,k⟩:=y;obtain⟨p,xs,rfl,rfl,hsl⟩:=hcase;obtain⟨g1,_,_,g4,_,g6⟩:=HGo.o _ k rfl;have Hsl:=@Aa (T6 (w.heap.size+2) W2 p xs) (by rw[<-hz1];exact hsl);obtain⟨pb,_,_,_,rfl,_⟩:=hsl;have Hrd:=Aa (fun W (h:Xc W pb xs)=>Qft pb xs g1 k g4 g6 x W h hx);have HV:=@Aa (Tz (some (Ai xs,k)) x=J1 (Ai xs) k x) rfl;generalize J1 (Ai xs) k x=o at *;clear g1 g4 g6 HGo Hbo;obtain⟨W3,hW3⟩:∃W3,W3=W2.alloc (.cells #[k.signs,k.base,k.name] 62):=⟨_,rfl⟩
  have hb3:Below W2 W2 W3:=fe;have TK3:=Aa (Au TK2.o aH hb3);have TV3:=Aa (Au TV2.o aH hb3);have B3:=Aa (B2.o.trans (hb3.mono B2.o.size));have SL3:=Aa (Hsl.o.below hb3);have RS3:=Aa (show W3.rangeAt W2 0 [k.signs,k.base,k.name]by rw[hW3];exact Cj W2 [k.signs,k.base,k.name] 62);have hz3:W3.heap.size=W2.heap.size+1:=eu;have HW3:=Aa hW3;clear hb3 hW3;unfold J2 at Hrd ⊢;go_wp2_with fail;rw[<-HW3.o];refine(Hrd.o W3 SL3.o.isc).mono ?_;rintro e W4 ⟨⟨vl,sl,rfl,hs4,hx4⟩,hb4⟩;obtain⟨A4,c4,rfl⟩:=hs4.form;have hz4:=hb4.size;have Hx4:=Aa hx4;obtain⟨W5,hW5⟩:∃W5,W5=W4.alloc (.cells #[.int .u8 (vl.what.toNat:Int),vl.text,(vl.tag:Int),.slice A4 vl.kids.length c4] 47):=⟨_,rfl⟩
  have hb45:Below W4 W4 W5:=ff;have hb5:Below W3 W3 W5:=hb4.trans (hb45.mono hb4.size);have TK5:=Aa (Au TK3.o aH hb5);have TV5:=Aa (Au TV3.o aH hb5);have B5:=Aa (B3.o.trans (hb5.mono B3.o.size));have SL5:=Aa (SL3.o.below hb5);have RS5:=Aa (Ax RS3.o aH hb5);have RV5:=Aa (show W5.rangeAt W4 0 (Jx (vl,.slice A4 vl.kids.length c4))by rw[hW5];exact Cj W4 (Jx (vl,.slice A4 vl.kids.length c4)) 47);have HS5:=Aa ((hs4.after hb45).mono (Q:=fun c=>w.heap.size+2<=c) fun c hc _=>by have:W3.heap.size<=c:=hc;omega);have HW5:=Aa hW5;have hz5:W4.heap.size<W5.heap.size:=by rw[hW5];simp
  clear hW5 hb45 hb5 hb4 hs4 hx4 Hrd;unfold Np;go_upto_region 5 with fail
  rw[<-HW5.o];refine M4 [32,33,34,35,6,999,998,9]
   (fun ix v W=>match ix with|0=>v=pb|1=>v=.agg #[k.signs,k.base,k.name]|2=>v=.agg #[.int .u8 (vl.what.toNat:Int),vl.text,(vl.tag:Int),.slice A4 vl.kids.length c4]|3=>v=.bool o.isSome|4=>v=pb|7=>v=.bool o.isSome|_=>True)
   (fun L U W=>Below w w W/\W.there w 0 3/\W.there (w.heap.size+1) 0 4/\W.rangeAt W2 0 [k.signs,k.base,k.name]/\W.rangeAt W4 0 (Jx (vl,.slice A4 vl.kids.length c4))/\T6 (w.heap.size+2) W pb xs/\Fb (fun c=>w.heap.size+2<=c) W (.slice A4 vl.kids.length c4) vl.kids/\(L 5=true->W.rangeAt w 0 [k.signs,k.base,k.name])/\(L 6=true->W.rangeAt (w.heap.size+1) 0 (Jx (vl,.slice A4 vl.kids.length c4)))) (⟨B5.o.drew,by simpa using TK5.o,by simpa using TV5.o,by simpa using RS5.o,by simpa using RV5.o,SL5.o.below ((At _ _).drew),HS5.o.after ((At _ _).drew),fun h=>Bool.noConfusion h,fun h=>Bool.noConfusion h⟩) ?_ ?_
  ·repeat (first|exact An.nil|(refine An.cons ?_ ?_;rotate_left))
   all_goals
    rintro L U W hL hpre HR Hdep K hK;obtain⟨r1,r2,r3,r4,r5,r6,r7,r8,r9⟩:=HR.o;have c0:W.cell? (W2,0)=k.signs:=by simpa using Ac r4 0 rfl
    have c1:W.cell? (W2,1)=k.base:=by simpa using Ac r4 1 rfl
    have c2:W.cell? (W2,2)=k.name:=by simpa using Ac r4 2 rfl
    have d0:W.cell? (W4,0)=some (.int .u8 (vl.what.toNat:Int)):=by simpa using Ac r5 0 rfl
    have d1:W.cell? (W4,1)=vl.text:=by simpa using Ac r5 1 rfl
    have d2:W.cell? (W4,2)=(vl.tag:Int):=by simpa using Ac r5 2 rfl
    have d3:W.cell? (W4,3)=some (.slice A4 vl.kids.length c4):=by simpa using Ac r5 3 rfl
    first|(simp[Region.binds]at hpre;done)|simp[Region.binds]at hpre|clear hpre
   iterate 5
    ·exact fK
   ·have u1:U 1=.agg #[k.signs,k.base,k.name]:=dm;rw[if_pos di];refine wp_store_mid 62 _ _ rfl w 0 ([k.signs,k.base,k.name]:List Value).toArray rfl u1 r2 aP bL ?_;exact hK undef _ _ Ab Ab ⟨Aj _ (Ao _) _ _ _ r1,aj r2 _ _ _,aj r3 _ _ _,am r4 _ _ _ (.inl aH),am r5 _ _ _ (.inl aH),r6.far (Ed _ _ _ W) aH,r7.grown (Ed _ _ _ W) (fun b hb e=>by injection e with e;have:w.heap.size+2<=b:=hb;omega),fun _=>ac _ _ _ _ r2,fun h=>am (r9 h) _ _ _ (.inl aH)⟩ rfl
   ·have u1:U 2=.agg #[.int .u8 (vl.what.toNat:Int),vl.text,(vl.tag:Int),.slice A4 vl.kids.length c4]:=dm;rw[if_pos di];refine wp_store_mid 47 _ _ rfl (w.heap.size+1) 0 (Jx (vl,.slice A4 vl.kids.length c4)).toArray rfl u1 r3 aP (by simp[Jx,Value.oneCell']) ?_;exact hK undef _ _ Ab Ab ⟨Aj _ aH _ _ _ r1,aj r2 _ _ _,aj r3 _ _ _,am r4 _ _ _ (.inl aH),am r5 _ _ _ (.inl aH),r6.far (Ed _ _ _ W) aH,r7.grown (Ed _ _ _ W) (fun b hb e=>by injection e with e;have:w.heap.size+2<=b:=hb;omega),fun h=>am (r8 h) _ _ _ (.inl aH),fun _=>ac _ _ _ _ r3⟩ rfl
   ·exact fK
  rintro L U W hL hφ hR;have e4:U 4=pb:=hφ 4 aL;have e7:U 7=.bool o.isSome:=hφ 7 aL;simp only[e4,e7];clear hφ;obtain⟨r1,r2,r3,r4,r5,r6,r7,r8,r9⟩:=hR;have R1:=Aa r1;have R6:=Aa r6;have R7:=Aa r7;have R8:=Aa (r8 (hL 5 aL));have R9:=Aa (r9 (hL 6 aL));clear hL r1 r2 r3 r4 r5 r6 r7 r8 r9;go_wp2_with fail;refine aF (v:=.tuple #[pb,.agg ([k.signs,k.base,k.name]:List Value).toArray,.agg (Jx (vl,.slice A4 vl.kids.length c4)).toArray,.bool o.isSome]) ?_ rfl ?_
  ·exact P5 results42 _ _ w.heap.size (w.heap.size+1) _ _ _ _ _ _ rfl rfl rfl rfl R8.o R9.o underlying62 rfl aP underlying47 rfl aP
  refine⟨⟨_,_,_,_,vl,_,by rw[HV.o];rfl,R7.o.mono (fun c hc _=>by have:w.heap.size+2<=c:=hc;omega),fun y hy=>?_⟩,R1.o⟩;rw[HV.o]at hy;exact⟨Hx4.o y hy,_,k,xs,rfl,rfl,rfl,rfl,rfl,R6.o.low aH⟩
end
end Go.Proofs.YtpjijpcemejlnaaGreatDoor
