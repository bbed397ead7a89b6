/- Texts joined. Conditions: as each theorem names them. -/
import Derived.DeepKeys4
import Derived.Test.YtmmhmlmfhpfgbaaGreatDoorF37
import Derived.Test.YtmmhmlmfhpfgbaaGreatDoorF38
set_option maxRecDepth 100000
set_option maxHeartbeats 32000000
set_option linter.unusedVariables false
set_option linter.unusedSimpArgs false
namespace Go.Proofs.YtmmhmlmfhpfgbaaGreatDoor
open Go.RowKit Go.Proofs.Tryz
section
attribute [local go_sem] Qoe Qnf Qmu Qk2 ByteArray.mk_append_mk
inductive Dw:Vl->Prop
 |fd {tx:List UInt8} {tg:Nat} {x:Vl} (h:Dw x):Dw (.mk 61 tx tg [x])
 |no {w:UInt8} {tx:List UInt8} {tg:Nat} {ks:List Vl} (hw:w≠61) (h:∀x∈ks,Dw x):Dw (.mk w tx tg ks)
theorem Ha.dw{S:List Ty}:∀{d:Nat} {k:Kd} {v:Vl},Ha S d k v->Dw v:=by
 intro d;induction d with
 |zero=>intro k v h;cases h
 |succ d ih=>
  intro k v h;cases h with
  |n=>exact .no aJ aK
  |t=>exact .no aJ aK
  |f=>exact .no aJ aK
  |lst hs hl h=>exact .no aJ fun x hx=>ih (h x hx)
  |non=>exact .no aJ aK
  |som hs h=>exact .no aJ fun x hx=>by rw[aq]at hx;subst hx;exact ih h
  |enm=>exact .no aJ aK
  |uni hs hb ht h5 hf h=>exact .no aJ fun x hx=>by rw[aq]at hx;subst hx;exact ih h
  |rcd hs hb ht h2 hf h hn hp=>
   refine .no aJ fun x hx=>?_;obtain⟨p,hp,rfl⟩:=ax.1 hx;exact .fd (ih (h p hp))
theorem Qbf(x:Vl):∀l:List Vl,Jr (l++[x])=max (Jr l) (M9 x)
 |[]=>by simp[Jr]
 |y::l=>by rw[av,Jr,Qbf x l,Jr];omega
theorem Qir(P:Nat->Prop){v:Vl}(hd:Dw v):∀(sl:Value) (w:World),Ea P w sl v.kids->M9 v<=100000 ->
  Calls prog 91 #[Ec v sl] w fun e w'=>e=.returned (.int .i64 (M9 v:Int))/\Below w w w':=by
 induction hd with
 |@fd tx tg x hx ih=>
  intro sl w h hl;obtain⟨A,c,xs,rfl,hks,hlx,hr,hP,hk⟩:=h;obtain⟨⟨y,ys⟩,rfl⟩:∃a,xs=[a]:=by
   cases xs with
   |nil=>simp[Bc,Vl.kids]at hks
   |cons a l=>cases l with
    |nil=>exact⟨a,rfl⟩
    |cons b l=>simp[Bc,Vl.kids]at hks
  obtain rfl:x=y:=by simpa [Bc,Vl.kids]using hks
  have hdp:M9 (.mk 61 tx tg [x])=M9 x:=by simp[M9,Jr]
  rw[hdp]at hl ⊢;have hkx:=hk (x,ys) aK;obtain⟨A7,c7,e7⟩:=hkx.form;simp only at e7;subst e7;obtain⟨b,off,rfl,hb,d0,d1,d2,d3⟩:=Ea.at_ hr (show 0<1 by decide);simp only[List.getElem_cons_zero,Nat.zero_mul,Nat.add_zero]at d0 d1 d2 d3;have Hkx:=Aa hkx;have Ih:=Aa (fun W h=>ih (.slice A7 x.kids.length c7) W h hl);have hbn:¬(b=w.heap.size):=aH;generalize M9 x=n at *;unfold Ec at Ih ⊢;clear hk hr hP hks hkx ih;simp only[Vl.what,Vl.text,Vl.tag,List.length_singleton];go_enter func91,ntmps91;go_wp2_with fail;refine(Ih.o _ (Hkx.o.after ((Ao _ _).alloc (An _) _))).mono ?_;rintro e w1 ⟨rfl,hb1⟩;have Hb1:=Aa (((Ao w.heap.size w).alloc (An _) _).trans (hb1.mono aK));clear hb1;go_wp2_with fail;go_ret;exact⟨rfl,Hb1.o⟩
 |@no wh tx tg ks hw hks ih=>
  intro sl w h hl;have t61:((wh.toNat:Int) == 61)=false:=Ap (d:=61) hw;have hdp:M9 (.mk wh tx tg ks)=Jr ks+1:=by rw[M9,if_neg hw]
  rw[hdp]at hl ⊢;simp only[Vl.kids]at h;obtain⟨A,c,xs,rfl,rfl,hlx,hr,hP,hk⟩:=h;have Hdp:=Aa hdp;have Hr:=Aa hr;have Hk:=Aa hk;have Hle:=Aa ((Yh (Bc xs) 100000).1 aH);have Ih:=Aa (fun x hx s W h=>ih x hx s W h (Hle.o x hx));clear hr hk hP ih hks hw;unfold Ec;simp only[Vl.what,Vl.text,Vl.tag];have hxl:(Bc xs).length=xs.length:=by simp[Bc]
  have HF:=Aa (rfl:Bc xs=xs.map (·.1));go_enter func91,ntmps91;go_wp2_with fail;obtain⟨w1,hw1⟩:∃w1,w1=w.alloc (.cells #[.int .u8 (wh.toNat:Int),tx,(tg:Int),.slice A xs.length c] 68):=⟨_,rfl⟩
  rw[<-hw1];have Hb1:=Aa (show Below w w w1 by rw[hw1];exact(Ao _ _).alloc (An _) _);have hz1:w.heap.size<w1.heap.size:=eJ;have Hr1:=Aa (Hr.o.below Hb1.o);have Hk1:=Aa (fun x hx=>(Hk.o x hx).after Hb1.o);clear hw1 Hr Hk;go_loopw [17,3] (fun i u wr=>∃m:Nat,i=.int .i64 m/\u=.int .i64 (Jr ((xs.take m).map (·.1)):Int)/\m<=xs.length/\Hid (Jr ((xs.take m).map (·.1))<=100000)/\Hid (Below w1 w1 wr)) (fun i _ _=>xs.length - (intOf i).toNat)
  case atStart=>exact⟨0,rfl,rfl,ag _,ag _,Ao _ _⟩
  case round=>
   obtain⟨m,rfl,rfl,hm,hdm,Hbr⟩:=hrel;have m1:(0:Int)<=(m:Int):=aH;by_cases hlt:m<xs.length
   ·have m2:(m:Int)<(xs.length:Int):=aH;obtain⟨b,off,rfl,hb,d0,d1,d2,d3⟩:=Ea.at_ (Hr1.o.below Hbr.o) hlt;have Hkx:=Aa ((Hk1.o _ (ae hlt)).after Hbr.o);have Hmx:=@Aa (xs[m].1∈Bc xs) (ap (ae hlt));have Hts:=Aa (Cb xs m hlt);have hsz:w1.heap.size<=wr.heap.size:=Hbr.o.size;have hbn:¬(b=wr.heap.size):=aH;generalize xs[m]=x at *;obtain⟨y,ys⟩:=x;obtain⟨A7,c7,e7⟩:=Hkx.o.form;simp only at e7 d0 d1 d2 d3 Hkx Hmx;subst e7;have hyl:=Hle.o y Hmx.o;have Hx:=Aa (fun W=>Ih.o y Hmx.o (.slice A7 y.kids.length c7) W);have Hsn:=Aa (show Jr ((xs.take (m+1)).map (·.1))=max (Jr ((xs.take m).map (·.1))) (M9 y)by rw[Hts.o,az];exact Qbf y _);unfold Ec at Hx;have hdm':=hdm.o;generalize Jr ((xs.take m).map (·.1))=q at *;generalize M9 y=n at *;go_wp2_with fail;refine(Hx.o _ (Hkx.o.after ((Ao _ _).alloc (An _) _))).mono ?_;rintro e w3 ⟨rfl,hb3⟩;have Hb3:=Aa (((Ao wr.heap.size wr).alloc (An _) _).trans (hb3.mono aK));clear hb3;go_wp2_with fail;go_roundw
    case rel=>exact⟨m+1,by go_num,by rw[Hsn.o];congr 1;omega,by omega,by rw[Hsn.o];show max q n<=100000;omega,Hbr.o.trans (Hb3.o.mono hsz)⟩
    case measure=>simp[intOf];omega
   ·obtain rfl:m=xs.length:=aH;have Hb6:=Aa (Hb1.o.trans (Hbr.o.mono aH));have HD:=Aa (show Jr ((xs.take xs.length).map (·.1))=Jr (Bc xs)by rw[List.take_length];rfl);have hd2:=hdm.o;generalize Jr ((xs.take xs.length).map (·.1))=q at *;go_wp2_with fail;go_ret;exact⟨Qlj (by have:=HD.o;have:=Hdp.o;omega),Hb6.o⟩
theorem Qkv{st:UInt8}{f:Fd}(h:Tj st f):f.given.length<=14:=by
 by_cases hs:st=69
 ·rw[(h.2.2.2.1 hs).2];simp
 by_cases hg:f.given=[]
 ·rw[hg];simp
 have:=((h.2.2.2.2 hs).2 hg).2.2;unfold Cg at this;split at this
 ·split at this
  ·rename_i n hd;have:=Cl.1 hd;rw[this.2];have:=Da 5 n en;omega
  cases this
 split at this
 ·simp only[aw,decide_eq_true_eq]at this;have h4:=this.2;unfold Dt at h4;simp only[aw,decide_eq_true_eq,List.length_dropLast,List.length_drop]at h4;omega
 split at this
 ·simp only[decide_eq_true_eq]at this;rw[this];simp
 cases this
theorem Qf5(w0:World)(b N:Nat)(p:Value)(XS:List PT)(hsc:Sd w0 p XS)(t:List UInt8)(k:Kd)(w:World)(hw:Below w0 w0 w)(hb:w0.heap.size<=b)(h:H6 w b p t false)(hl:t.length<=900)(hs:k.signs=[])(hbs:k.base=[64])(hnm:k.name.length<=100)
  (x:PT) (hxf:D8 XS k.name=some x) (q:Option (Vl × List UInt8)) (HO:∀W,Below w0 w0 W->H6 W b p t false->Calls prog 143 #[b,.pointer (some ⟨x.blk,0,none⟩)] W (M4 W b p t (N+1) q)):
  Calls prog 87 #[b,D9 k] w (M4 w b p t (N+1) q):=by
 have HH:=Aa HO;obtain⟨pb,A,c,mb,rfl,hpb,hc0,hc1,_,hnd,_,_⟩:=hsc
 have HN:=Aa (fun W (h:Below w0 w0 W)=>show (Instr.lookup 133 (.map (some mb)) k.name false).run prog W=.ok (.pointer (some ⟨x.blk,0,none⟩)) W from by
  have:=E8 (Dp.below hnd h) k.name aH;rw[hxf]at this;exact this)
 have HM:=Aa (fun W (h:Below w0 w0 W)=>(h.cell (p:=⟨pb,1,none⟩) hpb).trans hc1);have HS:=Aa h;have HW:=Aa hw;have hb0:=h.1;have hbn:¬(b=w.heap.size):=aH;have hbn2:¬(b=w.heap.size+1):=aH;have c2:=h.2.2.2.2;obtain⟨sg,bs,nm⟩:=k;simp only at hs hbs HN;subst hs hbs;unfold D9;simp only;clear h hw hxf HO hc0 hc1 hnd;go_enter func87,ntmps87;go_wp2_with fail;refine(Ki _ _ _).mono ?_;rintro e w2 ⟨rfl,hb2⟩;have F2:=Aa ((M0.init (k:=⟨[],[64],nm⟩) HS.o).post hb2);clear hb2 c2;have k0:=Ab F2.o.2.1 0 rfl;have k1:=Ab F2.o.2.1 1 rfl;have k2:=Ab F2.o.2.1 2 rfl;simp only[am]at k0 k1 k2;go_wp2_with fail;have hlz:=F2.o.2.2.2;have SP:=Aa F2.o.1.1.2.2.1;have hbz:=F2.o.1.1.1;refine Bp [52,53,54,55,56,57,58,59,60,61,62,63,999] aN aN aN (fun u=>by dsimp only[Bt,Bq,List.set,am,Nat.reduceAdd])
  (fun ix v W=>match ix with|0=>v=b|1=>v=b|2=>v=b|3=>v=b|4=>v=pb|5=>v=pb|6=>v=(pb,1)|7=>v=.map (some mb)|8=>v=(w,2)|9=>v=nm|10=>v=.pointer (some ⟨x.blk,0,none⟩)|11=>∃x s,v=Ec x s|_=>True)
  (fun L U W=>(L 11=false->Below w2 w2 W)/\(L 11=true->L 12=false->∃v sl t',U 11=Ec v sl/\Ea (fun c=>w.heap.size+2<=c) W sl v.kids/\M0 w b pb ⟨[],[64],nm⟩ t' q.isNone W/\(∀x,q=some x->v=x.1/\t'=x.2)/\Bd v/\t'.length<=t.length/\(Az v).length+t'.length<=t.length+8*(N+1)) /\
  (L 12=true->∃v sl,M4 w b pb t (N+1) q (.returned (.agg (Gl v sl).toArray)) W/\W.rangeAt (w.heap.size+1) 0 (Gl v sl))) (fun _ _=>True) (fun _ _ _ _ _ h=>h) (⟨fun _=>(Ao _ _).drew,fun h=>Bool.noConfusion h,fun h=>Bool.noConfusion h⟩) ?_ ?_
 ·repeat (first|exact Ak.nil|(refine Ak.cons ?_ ?_;rotate_left))
  all_goals
   rintro L U W hL hpre hR hun hdep K hK;have HR:=Aa hR;obtain⟨R1,R2,R3⟩:=HR.o;have Hdep:=Aa hdep;clear hun hdep hR;first|(simp[Region.binds]at hpre;done)|simp[Region.binds]at hpre|clear hpre
  iterate 4
   ·exact hD
  ·have h5:L 5=false:=Bb Hdep.o 5 4 rfl hL;have h6:L 6=false:=Bb Hdep.o 6 5 rfl h5;have h7:L 7=false:=Bb Hdep.o 7 6 rfl h6;have h10:L 10=false:=Bb Hdep.o 10 7 rfl h7;have h11:L 11=false:=Bb Hdep.o 11 10 rfl h10;have hB:=R1 h11;have hW2:=(F2.o.post hB).1.env HW.o hb;have p0:W.cell? (b,0)=pb:=(hB.cell (p:=⟨b,0,none⟩) hbz).trans SP.o;exact kL
  iterate 2
   ·exact hD
  ·have h10:L 10=false:=Bb Hdep.o 10 7 rfl hL;have h11:L 11=false:=Bb Hdep.o 11 10 rfl h10;have hB:=R1 h11;have hW2:=(F2.o.post hB).1.env HW.o hb;have m1:=HM.o W hW2;exact kL
  ·exact hD
  ·have h10:L 10=false:=Bb Hdep.o 10 9 rfl hL;have h11:L 11=false:=Bb Hdep.o 11 10 rfl h10;have hB:=R1 h11;have hW2:=(F2.o.post hB).1.env HW.o hb;have n2:W.cell? (w,2)=nm:=(hB.cell (p:=⟨w.heap.size,2,none⟩) (show w.heap.size<_ by omega)).trans k2;exact kL
  ·have h11:L 11=false:=Bb Hdep.o 11 10 rfl hL;have hB:=R1 h11;have hW2:=(F2.o.post hB).1.env HW.o hb;have hlk:=HN.o W hW2;exact kL
  ·have h12:L 12=false:=Bb Hdep.o 12 11 rfl hL;have hB:=R1 hL;have F3:=F2.o.post hB;go_simp;refine(HH.o W (F3.1.env HW.o hb) F3.1.1).mono ?_;rintro e w5 ⟨v,sl,t',rfl,hk5,hs5,hx5,hB5,hl5,hn5⟩;exact hK (Ec v sl) _ _ ⟨v,sl,rfl⟩ Ac ⟨fun h=>by simp at h,fun _ _=>⟨v,sl,t',rfl,hk5.mono fun c hc _=>(by have:=hB.size;omega),F3.step hb0 hs5,hx5,hB5,hl5,hn5⟩,fun h=>absurd (h12.symm.trans aR) aJ⟩ aI
  ·have l11:L 11=true:=hpre.1.1;obtain⟨v,sl,t',u11,hk5,F5,hx5,hB5,hl5,hn5⟩:=R2 l11 hL;obtain⟨A7,c7,rfl⟩:=hk5.form;have Z:=M0.fin (w9:=W.setCells (w.heap.size+1) 0 (Gl v (.slice A7 v.kids.length c7))) (t:=t) (N:=N+1) (v:=v) (sl:=.slice A7 v.kids.length c7) (r:=q) F5 hb0 rfl hk5 rfl hx5 hB5 hl5 hn5;rw[if_pos cr];refine wp_store_mid 68 _ _ rfl (w.heap.size+1) 0 (Gl v (.slice A7 v.kids.length c7)).toArray rfl u11 F5.2.2.1 aN (by simp[Gl,Value.oneCell']) ?_;exact hK undef _ _ Ac Ac ⟨fun h=>absurd (l11.symm.trans aR) aJ,fun _ h=>by simp at h,fun _=>⟨v,_,Z.1,Z.2⟩⟩ rfl
 rintro L U W hL hφ hR;clear hφ;obtain⟨_,_,h3⟩:=hR;obtain⟨v,sl,Z1,Z2⟩:=h3 (hL 12 aJ);clear hL h3;go_wp2_with fail;exact aF (v:=.agg (Gl v sl).toArray) (Bh results87 _ _ (w.heap.size+1) _ _ rfl Z2 underlying68 rfl aN) rfl Z1
theorem Qgh(w0:World)(b N:Nat)(p:Value)(S:List Ty)(t:List UInt8)(k:Kd)(w:World)(hw:Below w0 w0 w)(hb:w0.heap.size<=b)(h:H6 w b p t false)(hl:t.length<=900)(hN:t.length<=N)(hN2:N<=2000)(sg:List UInt8)(hs:k.signs=91::sg)(hsl:sg.length<=100)
  (H:IvC w0 b p S N k.part) (HG:∀s v r,Ar S 1000 N k.part s=some (v,r)->s=Az v++r) (q:Option (Vl × List UInt8)) (hq:q=Xx (Ar S 1000 N k.part) 1000 t):
  Calls prog 87 #[b,D9 k] w (M4 w b p t (N+1) q):=by
 have HL:=Aa (fun W (h1:Below w0 w0 W) (h2:H6 W b p t false)=>Qiq w0 b N p S t k.part W h1 hb h2 hl hN hN2 H HG q hq);have HP:=Aa (fun W=>Vr k W 91 sg hs aH);have HS:=Aa h;have HW:=Aa hw;have hb0:=h.1;have hbn:¬(b=w.heap.size):=aH;have hbn2:¬(b=w.heap.size+1):=aH;have c2:=h.2.2.2.2;obtain⟨sg',bs,nm⟩:=k;simp only at hs;subst hs;generalize hkp:(⟨91::sg,bs,nm⟩:Kd).part=kp at *;unfold D9 at HP ⊢ HL;simp only at HP ⊢;clear h hq hw H HG hkp;go_enter func87,ntmps87;go_wp2_with fail;refine(My 91 sg aH _ _ _).mono ?_;rintro e w2 ⟨rfl,hb2⟩;have F2:=Aa ((M0.init (k:=⟨91::sg,bs,nm⟩) HS.o).post hb2);clear hb2 c2;have k0:=Ab F2.o.2.1 0 rfl;have k1:=Ab F2.o.2.1 1 rfl;have k2:=Ab F2.o.2.1 2 rfl;simp only[am]at k0 k1 k2;go_wp2_with fail;refine(HP.o _).mono ?_;rintro e w3 ⟨rfl,hb3⟩;have F3:=Aa (F2.o.post hb3);clear hb3 k0 k1 k2;go_wp2_with fail;refine(HL.o _ (F3.o.1.env HW.o hb) F3.o.1.1).mono ?_;rintro e w4 ⟨v,sl,t',rfl,hk4,hs4,hx4,hB4,hl4,hn4⟩;obtain⟨A7,c7,rfl⟩:=hk4.form;have F4:=Aa (F3.o.step hb0 hs4);have hz3:=F3.o.2.2.2;have Hk4:=Aa hk4;have Hx4:=Aa hx4;have HB4:=Aa hB4;clear hs4 hk4 hx4 hB4;unfold Ec;go_wp2_with ((with_reducible refine Af (op:=⟨none,.store 68 _ _,_,_,_,none⟩) rfl 68 _ _ rfl (w.heap.size+1) 0 (Gl v (.slice A7 v.kids.length c7)) ?_ ?_ ?_ ?_ ?_ ?_);rfl;rfl;(exact F4.o.2.2.1);kernel_rfl;(simp[Gl,Value.oneCell']);intro w9 HS9)
 have Z:=M0.fin (t:=t) (N:=N+1) (v:=v) (sl:=.slice A7 v.kids.length c7) (r:=q) F4.o hb0 HS9.o (Hk4.o.mono fun c hc _=>by omega) rfl Hx4.o HB4.o hl4 hn4;exact aF (v:=.agg (Gl v (.slice A7 v.kids.length c7)).toArray) (Bh results87 _ _ (w.heap.size+1) _ _ rfl Z.2 underlying68 rfl aN) rfl Z.1
theorem Qf3(w0:World)(b:Nat)(p:Value)(XS:List PT)(hsc:Sd w0 p XS)(hS:G7 (Ag XS))(hb:w0.heap.size<=b):∀(N:Nat),N<=2000->∀(k:Kd),Ck k->B6 (Ag XS) k->IvC w0 b p (Ag XS) N k:=by
 intro N;induction N with
 |zero=>
  intro _ k hk hr t bad w hw h hl hN;cases bad with
  |true=>exact Yx b 0 p t k w h
  |false=>exact absurd (hN rfl) (Nat.not_lt_zero _)
 |succ N ih=>
  intro hN2 k hk hr t bad w hw h hl hN;cases bad with
  |true=>exact Yx b (N+1) p t k w h
  |false=>
   have hN:=Nat.le_of_lt_succ (hN rfl);rw[if_neg aJ];have hTy:∀t∈Ag XS,Fi t:=hS.1.1;unfold Ar;cases hs:k.signs with
   |cons c sg=>
    simp only;have hsl:sg.length<=100:=by have:=hk.2.2;unfold Ax at this;rw[hs]at this;simp at this;omega
    have hp:=(Js hk).1;have hrp:B6 (Ag XS) k.part:=hr;rcases Nz hk hs with rfl|rfl
    ·rw[if_pos rfl];exact Qgh w0 b N p (Ag XS) t k w hw hb h hl hN aH sg hs hsl (ih aH k.part hp hrp) (fun s v r h=>(Gy hTy 1000 N k.part s v r hp h).2) _ rfl
    rw[if_neg aJ];exact Qfa w0 b N p (Ag XS) t k w hw hb h hl hN aH sg hs hsl (ih aH k.part hp hrp) _ rfl
   |nil=>
    simp only;by_cases h1:k.base=[110]
    ·rw[if_pos h1];exact Qkc b N p t k w h hl hs h1 _ rfl
    rw[if_neg h1];by_cases h2:k.base=[116]
    ·rw[if_pos h2];exact Qkn b N p t k w h hl hs h2 _ rfl
    rw[if_neg h2];by_cases h3:k.base=[102]
    ·rw[if_pos h3];exact Qje b N p t k w h hl hs h3 _ rfl
    rw[if_neg h3];have h64:k.base=[64]:=by
     rcases hk.2.1 with h|⟨h|h|h,_⟩
     ·exact h.1
     ·exact absurd h h1
     ·exact absurd h h2
     exact absurd h h3
    have hnm:k.name.length<=100:=by
     rcases hk.2.1 with h|⟨_,h⟩
     ·have:=(Ds.1 h.2).2.1;omega
     rw[h];simp
    have hr2:=hr h64;rw[Gg]at hr2 ⊢;cases hx:D8 XS k.name with
    |none=>rw[hx]at hr2;cases hr2
    |some x=>
     simp only[Option.map_some];have hxm:=(D5 hx).1;have hxt:=(D5 hx).2.2;have hxi:P8 w0 x:=by obtain⟨_,_,_,_,_,_,_,_,_,_,h6,_⟩:=hsc;exact h6 x hxm
     have hto:=hTy x.ty (ap hxm);refine Qf5 w0 b N p XS hsc t k w hw hb h hl hs h64 hnm x hx _ fun W hW hSc=>?_;have htg:∀f∈x.ty.fields,f.tag<=200:=fun f hf=>(hto.2.2.1.1 f hf).2.1;by_cases h9:x.ty.sort=69
     ·exact Qkg w0 b N p (Ag XS) x hxi h9 t W hW hb hSc hl _ rfl
     have hfk:∀f∈x.ty.fields,Ck f.kind/\B6 (Ag XS) f.kind/\f.given.length<=1000:=fun f hf=>
      ⟨(K0 hTy hxt h9 hf).1,hS.2.1 x.ty (Cf hxt).1 h9 f hf,by have:=Qkv (hto.2.2.1.1 f hf);omega⟩
     have HF:∀f∈x.ty.fields,IvC w0 b p (Ag XS) N f.kind:=fun f hf=>ih aH f.kind (hfk f hf).1 (hfk f hf).2.1;by_cases h5:x.ty.sort=85
     ·exact Qkf w0 b N p (Ag XS) x hxi h5 t W hW hb hSc hl hN aH htg HF _ rfl
     have h82:x.ty.sort=82:=by
      rcases hto.1 with h|h|h
      ·exact h
      ·exact absurd h h5
      exact absurd h h9
     exact Qjr w0 b N p XS hsc hS x hxi h82 t W hW hb hSc hl hN aH htg hfk HF (fun f hf s v r h=>(Gy hTy 1000 N f.kind s v r (hfk f hf).1 h).2) _ rfl
def Sy(o:Option Vl)(w:World)(e:Ending)(w':World):Prop:=
 (∃v sl,e=.returned (.tuple #[Ec v sl,.bool o.isSome])/\Ea (fun b=>w.heap.size<=b) w' sl v.kids/\∀x,o=some x->v=x)/\Below w w w'
theorem Sy.no{o:Option Vl}{w w':World}{e:Ending}(ho:o=none)(he:e=.returned (.tuple #[Ec Et (.slice none 0 0),.bool false]))(hb:Below w w w'):Sy o w e w':=by
 subst ho;exact⟨⟨Et,_,he,Ea.nil _ _,by simp⟩,hb⟩
theorem Qba(p:Value)(XS:List PT)(hS:G7 (Ag XS))(k:Kd)(hk:Ck k)(hr:B6 (Ag XS) k)(s:List UInt8)(w:World)(hsc:Sd w p XS)(hs:s.length<=4000000):
  Calls prog 107 #[p,D9 k,s] w (Sy (Gs (Ag XS) k s) w):=by
 have hTy:∀t∈Ag XS,Fi t:=hS.1.1;by_cases hl:400<s.length
 ·have HQ:=Aa (show Gs (Ag XS) k s=none by unfold Gs;rw[if_pos hl]);have t1:decide ((400:Int)<(s.length:Int))=true:=aD aH;have TH:=Bz (w.alloc (.cells #[k.signs,k.base,k.name] 60)) [.int .u8 0,a6,.int .i64 0,.slice none 0 0] 68;simp at TH;have BL:Below w w ((w.alloc (.cells #[k.signs,k.base,k.name] 60)).alloc (.cells #[.int .u8 0,a6,.int .i64 0,.slice none 0 0] 68)):=((Ao _ _).alloc (An _) _).alloc aK _;unfold D9;go_enter func107,ntmps107;go_wp2_with ((with_reducible refine Af (op:=⟨none,.store 68 _ _,_,_,_,none⟩) rfl 68 _ _ rfl (w.heap.size+1) 0 [.int .u8 0,a6,.int .i64 0,.slice none 0 0] ?_ ?_ ?_ ?_ ?_ ?_);rfl;rfl;(exact TH);kernel_rfl;(simp[Gl,Value.oneCell']);intro w9 HS9)
  have HZ:=(by rw[HS9.o];exact aa _ _ _ _ (TH):w9.rangeAt (w.heap.size+1) 0 (Gl Et (.slice none 0 0)))
  refine aF (v:=.tuple #[.agg (Gl Et (.slice none 0 0)).toArray,.bool false]) (As results107 _ _ (w.heap.size+1) _ _ _ rfl rfl HZ underlying68 rfl aN) rfl ?_;exact Sy.no HQ.o rfl (by rw[HS9.o];exact Ai _ aH _ _ _ BL)
 have HQ0:=Aa (Qit hTy hk (by omega:s.length<=400) 1000 500 aH aH);have t1:decide ((400:Int)<(s.length:Int))=false:=aC aH;have HG:=Aa (fun v r=>Gy hTy 1000 500 k s v r hk);have HV:=Aa (fun w0 b (h0:Sd w0 p XS) hb W (hW:Below w0 w0 W) (h2:H6 W b p s false)=>Qf3 w0 b p XS h0 hS hb 500 aH k hk hr s false W hW h2 aH (fun _=>by omega));simp only[ao,if_false]at HV;generalize Gs (Ag XS) k s=q at *;generalize hrd:Ar (Ag XS) 1000 500 k s=rd at *;have Hsc:=Aa hsc;obtain⟨pb,_,_,_,rfl,_⟩:=hsc;unfold D9 at HV ⊢;clear hrd hS hk hr hTy;go_enter func107,ntmps107;go_wp2_with fail;obtain⟨W1,hW1⟩:∃W1,W1=(w.alloc (.cells #[k.signs,k.base,k.name] 60)).alloc (.cells #[.int .u8 0,a6,.int .i64 0,.slice none 0 0] 68):=⟨_,rfl⟩
 rw[<-hW1];have hz1:W1.heap.size=w.heap.size+2:=cG;have B1:=Aa (show Below w w W1 by rw[hW1];exact((Ao _ _).alloc (An _) _).alloc aK _);have T1:=Aa (show W1.there (w.heap.size+1) 0 4 by rw[hW1];have:=Bz (w.alloc (.cells #[k.signs,k.base,k.name] 60)) [.int .u8 0,a6,.int .i64 0,.slice none 0 0] 68;simpa using this);clear hW1;obtain⟨W2,hW2⟩:∃W2,W2=W1.alloc (.cells #[pb,s,.bool false] 65):=⟨_,rfl⟩
 have hb2:Below W1 W1 W2:=by rw[hW2];exact(Ao _ _).alloc (An _) _
 have S2:=@Aa (H6 W2 W1.heap.size pb s false) (by rw[hW2];exact⟨by simp,Qe.new _ _ _,by simp,by simp,by simp⟩);rw[hz1]at S2;rw[<-hW2];refine(HV.o W1 (w.heap.size+1+1) (Hsc.o.below B1.o) aH W2 hb2 S2.o).mono ?_;rintro e w3 ⟨v,sl,t',rfl,hk3,hs3,hx3,hB3,hl3,hn3⟩;obtain⟨A7,c7,rfl⟩:=hk3.form;have hz2:W1.heap.size<W2.heap.size:=by rw[hW2];simp
 have T3:=Aa (Eu (Aj T1.o aH hb2) hs3.2 aH aK);have B3:=@Aa (Below w w w3) ((B1.o.trans (hb2.mono aH)).grown hs3.2 aH (fun k e=>by injection e with e;omega));have S3:=Aa hs3.1;have hz3:W2.heap.size<=w3.heap.size:=hs3.2.size;have Hk3:=Aa hk3;have Hx3:=Aa hx3;have T4:=Aa (fun o=>Aj T3.o aH ((Ao w3.heap.size w3).alloc (An _) o));have B4:=Aa (fun o=>B3.o.alloc B3.o.size o);clear hs3 hk3 hx3 HV hW2 hb2 T1 B1 hB3;unfold Ec;have c1:=S3.o.2.2.2.1;have c2:=S3.o.2.2.2.2;have hbw:=S3.o.1;have hbn:¬(w.heap.size+1+1=w3.heap.size):=aH;cases rd with
 |none=>
  have HQ:=@Aa (q=none) HQ0.o;simp only[Option.isNone_none]at c2;go_wp2_with ((with_reducible refine Af (op:=⟨none,.store 68 _ _,_,_,_,none⟩) rfl 68 _ _ rfl (w.heap.size+1) 0 [.int .u8 0,a6,.int .i64 0,.slice none 0 0] ?_ ?_ ?_ ?_ ?_ ?_);rfl;rfl;(exact T4.o _);kernel_rfl;(simp[Gl,Value.oneCell']);intro w9 HS9)
  have HZ:=(by rw[HS9.o];exact aa _ _ _ _ (T4.o _):w9.rangeAt (w.heap.size+1) 0 (Gl Et (.slice none 0 0)))
  refine aF (v:=.tuple #[.agg (Gl Et (.slice none 0 0)).toArray,.bool false]) (As results107 _ _ (w.heap.size+1) _ _ _ rfl rfl HZ underlying68 rfl aN) rfl ?_;exact Sy.no HQ.o rfl fL
 |some y=>
  obtain⟨v0,r⟩:=y;obtain⟨rfl,rfl⟩:=Hx3.o _ rfl;have hv:=(HG.o v t' rfl).1;simp only[Option.isNone_some]at c2;have hd5:M9 v<=500:=(Gz _ _ _ _ hv 500).1 hv;have HD:=Aa (fun W (h:Below w3 w3 W)=>Qir _ hv.dw (.slice A7 v.kids.length c7) W (Hk3.o.after h) aH);unfold Ec at HD;cases ht:t' with
  |cons c u=>
   rw[ht]at HQ0 c1;have HQ:=@Aa (q=none) HQ0.o;clear ht;go_wp2_with ((with_reducible refine Af (op:=⟨none,.store 68 _ _,_,_,_,none⟩) rfl 68 _ _ rfl (w.heap.size+1) 0 [.int .u8 0,a6,.int .i64 0,.slice none 0 0] ?_ ?_ ?_ ?_ ?_ ?_);rfl;rfl;(exact T4.o _);kernel_rfl;(simp[Gl,Value.oneCell']);intro w9 HS9)
   have HZ:=(by rw[HS9.o];exact aa _ _ _ _ (T4.o _):w9.rangeAt (w.heap.size+1) 0 (Gl Et (.slice none 0 0)))
   refine aF (v:=.tuple #[.agg (Gl Et (.slice none 0 0)).toArray,.bool false]) (As results107 _ _ (w.heap.size+1) _ _ _ rfl rfl HZ underlying68 rfl aN) rfl ?_;exact Sy.no HQ.o rfl fL
  |nil=>
   rw[ht]at HQ0 c1;have HQ1:=@Aa (q=if M9 v<=12 then some v else none) HQ0.o;clear ht hv;go_wp2_with fail;refine(HD.o _ ((Ao _ _).alloc (An _) _)).mono ?_;rintro e w5 ⟨rfl,hb5⟩;have hb5':Below w3 w3 w5:=((Ao w3.heap.size w3).alloc (An _) _).trans (hb5.mono aK);have T5:=Aa (Aj T3.o aH hb5');have B5:=Aa (B3.o.trans (hb5'.mono B3.o.size));have X5:=Aa (Ah (Bo w3 (Gl v (.slice A7 v.kids.length c7)) 68) aK hb5);have hz5:=hb5'.size;have d0:=Ab X5.o 0 rfl;have d1:=Ab X5.o 1 rfl;have d2:=Ab X5.o 2 rfl;have d3:=Ab X5.o 3 rfl;simp only[am]at d0 d1 d2 d3;have Hk5:=Aa (Hk3.o.after hb5');clear hb5 hb5';by_cases h12:M9 v<=12
   ·have t2:decide ((12:Int)<(M9 v:Int))=false:=aC aH;have HQ:=Aa (show q=some v by rw[HQ1.o,if_pos h12]);clear HQ1 HQ0;generalize M9 v=n at *;go_wp2_with ((with_reducible refine Af (op:=⟨none,.store 68 _ _,_,_,_,none⟩) rfl 68 _ _ rfl (w.heap.size+1) 0 (Gl v (.slice A7 v.kids.length c7)) ?_ ?_ ?_ ?_ ?_ ?_);rfl;rfl;(exact T5.o);kernel_rfl;(simp[Gl,Value.oneCell']);intro w9 HS9)
    have HZ:w9.rangeAt (w.heap.size+1) 0 (Gl v (.slice A7 v.kids.length c7)):=by rw[HS9.o];exact aa _ _ _ _ T5.o
    refine aF (v:=.tuple #[.agg (Gl v (.slice A7 v.kids.length c7)).toArray,.bool true]) (As results107 _ _ (w.heap.size+1) _ _ _ rfl rfl HZ underlying68 rfl aN) rfl ?_;rw[HQ.o,HS9.o];exact⟨⟨v,_,rfl,(Hk5.o.set (B:=w.heap.size+1) aH _).mono (fun c hc _=>by omega),by simp⟩,Ai _ aH _ _ _ B5.o⟩
   have t2:decide ((12:Int)<(M9 v:Int))=true:=aD aH;have HQ:=Aa (show q=none by rw[HQ1.o,if_neg h12]);clear HQ1 HQ0;generalize M9 v=n at *;go_wp2_with ((with_reducible refine Af (op:=⟨none,.store 68 _ _,_,_,_,none⟩) rfl 68 _ _ rfl (w.heap.size+1) 0 [.int .u8 0,a6,.int .i64 0,.slice none 0 0] ?_ ?_ ?_ ?_ ?_ ?_);rfl;rfl;(exact T5.o);kernel_rfl;(simp[Gl,Value.oneCell']);intro w9 HS9)
   have HZ:=(by rw[HS9.o];exact aa _ _ _ _ (T5.o):w9.rangeAt (w.heap.size+1) 0 (Gl Et (.slice none 0 0)))
   refine aF (v:=.tuple #[.agg (Gl Et (.slice none 0 0)).toArray,.bool false]) (As results107 _ _ (w.heap.size+1) _ _ _ rfl rfl HZ underlying68 rfl aN) rfl ?_;exact Sy.no HQ.o rfl (by rw[HS9.o];exact Ai _ aH _ _ _ B5.o)
end
theorem Tryz.laidOutI:laidOutB prog=true:=aN
def Sh(p:C9):List UInt8:=keyBytes [.string p.1,.string p.2]
theorem Tryz.keyPairs:Go.Maps.Keyed prog 271:=Go.Maps.Keyed.of_law (deep_law_laid Tryz.laidOutI (m:=2) aH (of_decide_eq_true aN) aN aN)
theorem Tryz.typesPos:0<prog.types.size:=of_decide_eq_true aN
theorem Qiu{p q:C9}(hp:p.1.length<=100/\p.2.length<=100)(hq:q.1.length<=100/\q.2.length<=100)(h:Sh p=Sh q):p=q:=by
 have:=keyBytes_inj (l:=[.string p.1,.string p.2]) (l':=[.string q.1,.string q.2]) ⟨Ac,Ac,Ac⟩
  dW dW h
 simp at this;exact Prod.ext this.1 this.2
theorem Tryz.keyPair{a b:Cn}(ha:a.length<=100)(hb:b.length<=100):keyOf prog 271 (.agg #[a,b])=some (.string (Sh (a,b))):=by
 have hkt:prog.keyType 271=true:=aN;have hc:prog.cellsOf 271=2:=aN;have hs:prog.cellsOf 9=1:=aN;have h0:0<prog.types.size:=Tryz.typesPos;obtain⟨d,hd⟩:=Nat.exists_eq_succ_of_ne_zero (Nat.pos_iff_ne_zero.1 h0);have e1:(⟨a.toArray⟩:ByteArray).size=a.length:=by simp[ByteArray.size]
 have e2:(⟨b.toArray⟩:ByteArray).size=b.length:=by simp[ByteArray.size]
 have l1:a.length<=9223372036854775807:=aH;have l2:b.length<=9223372036854775807:=aH;unfold keyOf;simp only[underlying271];have hL:prog.keyLits (prog.types.size+1) 271 [a,b]=some [.string a,.string b]:=by
  rw[hd];simp only[Program.keyLits,underlying271,underlying9,hc,hs,e1,e2,maxLen];simp[Program.keyLits,underlying271,underlying9,hc,hs,e1,e2,l1,l2,maxLen]
 have hf:(Value.agg #[a,b]).formed prog 271=true:=by
  simp[Value.formed,underlying271,hc]
 simp only[hkt,hf,Bool.and_self,if_true,Value.cells,hL,Option.map_some];rfl
def Qv(m:List C9)(l:Lit):Value:=.bool (m.any fun p=>l.sameKey (.string (Sh p)))
theorem Qc4(m:List C9)(p:C9)(l:Lit):(if l.sameKey (.string (Sh p))=true then .bool true else Qv m l)=Qv (m++[p]) l:=by
 unfold Qv;rw[List.any_append];cases h:l.sameKey (.string (Sh p))<;>simp[h]
theorem Qg6{m:List C9}{p:C9}(hp:p.1.length<=100/\p.2.length<=100)(hm:∀q∈m,q.1.length<=100/\q.2.length<=100):Qv m (.string (Sh p))=.bool (decide (p∈m)):=by
 unfold Qv;congr 1
 rw[Bool.eq_iff_iff,List.any_eq_true,decide_eq_true_eq];constructor
 ·rintro⟨q,hq,h⟩;have:Sh p=Sh q:=by simpa [Lit.sameKey]using h
  rw[Qiu hp (hm q hq) this];exact hq
 intro h;exact⟨p,h,by simp[Lit.sameKey]⟩
theorem Tryz.zeroBool(w:World):(zeroValue 4).run prog w=.ok (.bool false) w:=aN
def Fc(w0:World)(p1 p2:Value)(w:World)(m:List C9):Prop:=
 Below w0 w0 w/\w0.heap.size+2<=w.heap.size/\w.cell? (w0,1,0)=some p1/\w.cell? (w0,1,1)=some p2/\w.cell? (w0,1,2)=some (.map (some w0.heap.size)) /\
  Dp prog 271 (.bool false) w w0.heap.size m.length (Qv m)
theorem Fc.below{w0 w w':World}{p1 p2:Value}{m:List C9}(h:Fc w0 p1 p2 w m)(hb:Below w w w'):Fc w0 p1 p2 w' m:=by
 obtain⟨h1,h2,h3,h4,h5,h6⟩:=h
 exact⟨h1.trans (hb.mono aH),ad h2 hb.size,(hb.cell (p:=⟨w0.heap.size+1,0,none⟩) (show w0.heap.size+1<_ by omega)).trans h3,(hb.cell (p:=⟨w0.heap.size+1,1,none⟩) (show w0.heap.size+1<_ by omega)).trans h4,
  (hb.cell (p:=⟨w0.heap.size+1,2,none⟩) (show w0.heap.size+1<_ by omega)).trans h5,h6.below hb⟩
theorem Cr{w w':World}(h:Below w w w')(row:Option Nat):w.grownBy w' row:=⟨h.os,h.tape,h.output,h.size,fun k hk _=>h.block k hk⟩
theorem Fc.push{w0 w w5:World}{p1 p2:Value}{m:List C9}{p:C9}(h:Fc w0 p1 p2 w m)(hg:w.grownBy w5 (some w0.heap.size))(hf:Dp prog 271 (.bool false) w5 w0.heap.size (m.length+1) (fun l=>if l.sameKey (.string (Sh p))=true then .bool true else Qv m l)):Fc w0 p1 p2 w5 (m++[p]):=by
 obtain⟨h1,h2,h3,h4,h5,h6⟩:=h;have hc:∀j,w5.cell? ⟨w0.heap.size+1,j,none⟩=w.cell? ⟨w0.heap.size+1,j,none⟩:=fun j=>hg.cell_far ⟨w0.heap.size+1,j,none⟩ (show w0.heap.size+1<_ by omega) aK;refine⟨h1.grown hg aH (fun k hk=>by injection hk with hk;omega),ad h2 hg.size,(hc 0).trans h3,(hc 1).trans h4,(hc 2).trans h5,?_⟩;rw[ah];exact hf.of_eq (fun l hl=>Qc4 m p l)
def Tw(w0:World)(p1 p2:Value)(r:Bool × List C9)(w:World)(e:Ending)(w':World):Prop:=e=.returned (.bool r.1)/\Fc w0 p1 p2 w' r.2/\w.grownBy w' (some w0.heap.size)
def evP(S T:List Ty)(K:Kd->Kd->List C9->Bool × List C9)(t u:Ty)(m:List C9):Bool × List C9:=
 if (t.name,u.name)∈m then(true,m)else evT S T K t u (m++[(t.name,u.name)])
section
attribute [local go_sem] Qoe Qnf Qmu Qk2 ByteArray.mk_append_mk
theorem Qfu(w0:World)(p1 p2:Value)(xs ys:List PT)(hx:Sd w0 p1 xs)(hy:Sd w0 p2 ys)(n:Nat)(a b:Kd)(m:List C9)(w:World)
  (ha:Ck a) (hb:Ck b) (hra:B6 (Ag xs) a) (hrb:B6 (Ag ys) b) (hst:Fc w0 p1 p2 w m)
  (ih:∀x y W,x∈xs->y∈ys->Fc w0 p1 p2 W m ->
   Calls prog 211 #[(w0,1,0),.pointer (some ⟨x.blk,0,none⟩),.pointer (some ⟨y.blk,0,none⟩)] W (Tw w0 p1 p2 (evP (Ag xs) (Ag ys) (J2 (Ag xs) (Ag ys) n) x.ty y.ty m) W)):
  Calls prog 168 #[(w0,1,0),D9 a,D9 b] w (Tw w0 p1 p2 (J2 (Ag xs) (Ag ys) (n+1) a b m) w):=by
 have HF:=Aa (show J2 (Ag xs) (Ag ys) (n+1) a b m=(if a.signs≠b.signs\/a.base≠b.base then(false,m)
  else if a.base≠[64]then(true,m)
  else match Bk (Ag xs) a.name,Bk (Ag ys) b.name with
   |some t,some u=>if (a.name,b.name)∈m then(true,m)else evT (Ag xs) (Ag ys) (J2 (Ag xs) (Ag ys) n) t u (m++[(a.name,b.name)])
   |_,_=>(false,m))from by rw[J2];rfl)
 have Hst:=Aa hst;have hna:=Fv ha;have hnb:=Fv hb;have hsz:=hst.2.1;unfold D9;by_cases hsg:a.signs=b.signs
 ·have t1:(!(a.signs == b.signs))=false:=cO;have t2:(a.signs == b.signs)=true:=cO;by_cases hbs:a.base=b.base
  ·have t3:(!(a.base == b.base))=false:=by simp[hbs]
   have t4:(a.base == b.base)=true:=by simp[hbs]
   have HF1:=Aa (HF.o.trans (if_neg (by simp[hsg,hbs])));by_cases h64:a.base=[64]
   ·have HF2:=Aa (HF1.o.trans (if_neg eT));have h64b:b.base=[64]:=hbs ▸ h64;have h1:=hra h64;have h2:=hrb h64b;rw[Gg]at h1 h2;obtain⟨x,hxf⟩:=Option.isSome_iff_exists.1 (by simpa using h1:(D8 xs a.name).isSome=true);obtain⟨y,hyf⟩:=Option.isSome_iff_exists.1 (by simpa using h2:(D8 ys b.name).isSome=true);have hxm:=D5 hxf;have hym:=D5 hyf
    have HF3:=Aa (show J2 (Ag xs) (Ag ys) (n+1) a b m=evP (Ag xs) (Ag ys) (J2 (Ag xs) (Ag ys) n) x.ty y.ty m from by
     rw[HF2.o,hxm.2.2,hym.2.2];unfold evP;rw[hxm.2.1,hym.2.1])
    have Hcall:=Aa (fun W (h:Fc w0 p1 p2 W m)=>ih x y W hxm.1 hym.1 h);obtain⟨pb1,_,_,mb1,rfl,q0,_,q2,_,q4,_,_⟩:=hx;obtain⟨pb2,_,_,mb2,rfl,s0,_,s2,_,s4,_,_⟩:=hy
    have Hl1:=Aa (fun W (h:Below w0 w0 W)=>show (Instr.lookup 133 (.map (some mb1)) a.name false).run prog W=.ok (.pointer (some ⟨x.blk,0,none⟩)) W from by
     have:=E8 (Dp.below q4 h) a.name aH;rw[hxf]at this;exact this)
    have Hl2:=Aa (fun W (h:Below w0 w0 W)=>show (Instr.lookup 133 (.map (some mb2)) b.name false).run prog W=.ok (.pointer (some ⟨y.blk,0,none⟩)) W from by
     have:=E8 (Dp.below s4 h) b.name aH;rw[hyf]at this;exact this)
    have P1:=Aa q0;have P2:=Aa s0;have M1:=Aa q2;have M2:=Aa s2;rw[hsg,h64,h64b];generalize evP (Ag xs) (Ag ys) (J2 (Ag xs) (Ag ys) n) x.ty y.ty m=r at *;obtain⟨r1,r2⟩:=r;clear ha hb hra hrb hst ih hsg hbs t1 t2 t3 t4 h64 h64b h1 h2 hxf hyf hxm hym q0 q2 q4 s0 s2 s4;go_enter func168,ntmps168;have t5:(!(b.signs == b.signs))=false:=aK;go_wp2_with fail;obtain⟨W2,hW2⟩:∃W2,W2=(w.alloc (.cells #[b.signs,.string ⟨#[64]⟩,a.name] 60)).alloc (.cells #[b.signs,.string ⟨#[64]⟩,b.name] 60):=⟨_,rfl⟩
    rw[<-hW2];have hb2:Below w w W2:=gX;have Hst2:=Aa (Hst.o.below hb2);have Hg2:=Aa (Cr hb2 (some w0.heap.size));have hz2:W2.heap.size=w.heap.size+2:=by rw[hW2];simp
    have X41:=@Aa (W2.cell? (w,1)=some (.string ⟨#[64]⟩)) eS;have X42:=@Aa (W2.cell? (w,2)=a.name) eS;have X52:=@Aa (W2.cell? (w,1,2)=b.name) eS;have B4:=Aa (show w.heap.size<W2.heap.size by omega);have B5:=Aa (show w.heap.size+1<W2.heap.size by omega);have B4n:=@Aa (some w.heap.size≠some w0.heap.size) aM;have B5n:=@Aa (some (w.heap.size+1)≠some w0.heap.size) aM;clear hW2 hb2;refine Jd [19,20,21,22,23,24,25,26,27,28,29,30,31,32,33,34,35,36,37,38,39,40,41,42,43,44,45,6]
     (fun i v W=>match i with|0=>v=(w,1)|1=>v=.string ⟨#[64]⟩|2=>v=.bool false|3=>v=.bool false|4=>v=(w0,1,0)|5=>v=(w0,1,0)|6=>v=(w0,1,0)|7=>v=(w0,1,0)|8=>v=pb1|9=>v=pb1|10=>v=(pb1,1)|11=>v=.map (some mb1)|12=>v=(w,2)|13=>v=a.name|14=>v=.pointer (some ⟨x.blk,0,none⟩)|15=>v=(w0,1,0)|16=>v=(w0,1,0)|17=>v=(w0,1,1)|18=>v=pb2|19=>v=pb2|20=>v=(pb2,1)|21=>v=.map (some mb2)|22=>v=(w,1,2)|23=>v=b.name|24=>v=.pointer (some ⟨y.blk,0,none⟩)|25=>v=.bool r1|26=>v=.bool r1|27=>v=.bool r1|_=>True)
     (fun L U W=>∃mm,Fc w0 pb1 pb2 W mm/\W2.grownBy W (some w0.heap.size)/\(L 25=true->mm=r2)/\(L 25=false->mm=m)) (⟨m,Hst2.o.below ((Ao _ _).drew),Cr ((Ao _ _).drew) _,fun h=>Bool.noConfusion h,fun _=>rfl⟩) ?_ ?_
    ·repeat (first|exact Ak.nil|(refine Ak.cons ?_ ?_;rotate_left))
     all_goals
      rintro L U W hL hpre HR Hdep K hK;obtain⟨mm,ha9,hk9,r5,r6⟩:=HR.o;have a0:W.cell? (w0,1,0)=pb1:=ha9.2.2.1;have a1:W.cell? (w0,1,1)=pb2:=ha9.2.2.2.1;have b1:W.cell? (pb1,1)=some (.map (some mb1)):=(ha9.1.cell (p:=⟨pb1,1,none⟩) P1.o).trans M1.o;have b2:W.cell? (pb2,1)=some (.map (some mb2)):=(ha9.1.cell (p:=⟨pb2,1,none⟩) P2.o).trans M2.o;have x1:W.cell? (w,1)=some (.string ⟨#[64]⟩):=(hk9.cell_far ⟨w.heap.size,1,none⟩ B4.o B4n.o).trans X41.o;have x2:W.cell? (w,2)=a.name:=(hk9.cell_far ⟨w.heap.size,2,none⟩ B4.o B4n.o).trans X42.o;have x3:W.cell? (w,1,2)=b.name:=(hk9.cell_far ⟨w.heap.size+1,2,none⟩ B5.o B5n.o).trans X52.o;have l1:=Hl1.o W ha9.1;have l2:=Hl2.o W ha9.1;first|(simp[Region.binds]at hpre;done)|simp[Region.binds]at hpre|clear hpre
     iterate 25
      ·exact hD
     ·exact j0
     iterate 2
      ·exact hD
    rintro L U W hL hφ hR;have e27:U 27=.bool r1:=hφ 27 aJ;simp only[e27];clear hφ;obtain⟨mm,ha9,hk9,h1,_⟩:=hR;obtain rfl:=h1 (hL 25 aJ);have Ha9:=Aa ha9;have Hk9:=Aa (Hg2.o.trans hk9);clear hL ha9 hk9 h1;go_wp2_with fail;go_ret;rw[HF3.o];exact⟨rfl,Ha9.o,Hk9.o⟩
   have HF2:=Aa (HF1.o.trans (if_pos h64));have t5:(a.base == [64])=false:=by simpa using h64
   have t6:(a.base != [64])=true:=by simpa using h64
   clear ha hb hra hrb hst ih h64 hx hy;rw[<-hsg,<-hbs];clear hsg hbs t1 t2 t3 t4;go_enter func168,ntmps168;go_wp2_with fail;obtain⟨W2,hW2⟩:∃W2,W2=(w.alloc (.cells #[a.signs,a.base,a.name] 60)).alloc (.cells #[a.signs,a.base,b.name] 60):=⟨_,rfl⟩
   rw[<-hW2];have hb2:Below w w W2:=gX;have Hb2:=Aa hb2;have x1:W2.cell? (w,1)=a.base:=eS;clear hW2 hb2;refine Jd [19,20,21,22,23,24,25,26,27,28,29,30,31,32,33,34,35,36,37,38,39,40,41,42,43,44,45,6]
    (fun i v W=>match i with|0=>v=(w,1)|1=>v=a.base|2=>v=.bool true|3=>v=.bool true|4=>v=undef|5=>v=undef|6=>v=undef|7=>v=undef|8=>v=undef|9=>v=undef|10=>v=undef|11=>v=undef|12=>v=undef|13=>v=undef|14=>v=undef|15=>v=undef|16=>v=undef|17=>v=undef|18=>v=undef|19=>v=undef|20=>v=undef|21=>v=undef|22=>v=undef|23=>v=undef|24=>v=undef|25=>v=undef|26=>v=.bool true|27=>v=.bool true|_=>True)
    (fun L U W=>∃q,W=W2.drewN q) (⟨1,rfl⟩) ?_ ?_
   ·repeat (first|exact Ak.nil|(refine Ak.cons ?_ ?_;rotate_left))
    all_goals
     rintro L U W hL hpre HR Hdep K hK;obtain⟨q,rfl⟩:=HR.o;first|(simp[Region.binds]at hpre;done)|simp[Region.binds]at hpre|clear hpre
    iterate 28
     ·exact hD
   rintro L U W hL hφ hR;have e27:U 27=.bool true:=hφ 27 aJ;simp only[e27];clear hφ;obtain⟨q,rfl⟩:=hR;have Hbq:=Aa (Hb2.o.trans ((below_drewN (Ao W2.heap.size W2) q).mono Hb2.o.size));clear hL;go_wp2_with fail;go_ret;rw[HF2.o];exact⟨rfl,Hst.o.below Hbq.o,Cr Hbq.o _⟩
  have t3:(!(a.base == b.base))=true:=by simpa using hbs
  have t4:(a.base == b.base)=false:=by simpa using hbs
  have HF1:=Aa (HF.o.trans (if_pos (.inr hbs)));clear ha hb hra hrb hst ih hsg hbs hx hy;go_enter func168,ntmps168;go_wp2_with fail;exact lR
 have t1:(!(a.signs == b.signs))=true:=by simpa using hsg
 have t2:(a.signs == b.signs)=false:=by simpa using hsg
 have HF1:=Aa (HF.o.trans (if_pos (.inl hsg)));clear ha hb hra hrb hst ih hsg hx hy;go_enter func168,ntmps168;go_wp2_with fail;exact lR
end
end Go.Proofs.YtmmhmlmfhpfgbaaGreatDoor
