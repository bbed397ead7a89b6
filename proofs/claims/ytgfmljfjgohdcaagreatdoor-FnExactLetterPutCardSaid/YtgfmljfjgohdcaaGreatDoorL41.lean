/- Texts joined. Conditions: as each theorem names them. -/
import Derived.Deep.CutRange
import Derived.Deep.DeepCutAuto
import Derived.Test.YtgfmljfjgohdcaaGreatDoorL31
import Derived.Test.YtgfmljfjgohdcaaGreatDoorL40
import Derived.Test.YtgfmljfjgohdcaaGreatDoorL43
set_option maxRecDepth 100000
set_option maxHeartbeats 32000000
set_option linter.unusedVariables false
set_option linter.unusedSimpArgs false
namespace Go.Proofs.YtgfmljfjgohdcaaGreatDoor
open Go.RowKit Go.Proofs.Tryz
section
attribute [local go_sem] Qls Qkr Qj4 Qig ByteArray.mk_append_mk
inductive Dw:Vl->Prop
 |fd {tx:List UInt8} {tg:Nat} {x:Vl} (h:Dw x):Dw (.mk 61 tx tg [x])
 |no {w:UInt8} {tx:List UInt8} {tg:Nat} {ks:List Vl} (hw:w≠61) (h:∀x∈ks,Dw x):Dw (.mk w tx tg ks)
theorem Nm.dw{S:List Ty}:∀{d:Nat} {k:Kd} {v:Vl},Nm S d k v->Dw v:=by
 intro d;induction d with
 |zero=>intro k v h;cases h
 |succ d ih=>
  intro k v h;cases h with
  |n=>exact .no aI aH
  |t=>exact .no aI aH
  |f=>exact .no aI aH
  |lst hs hl h=>exact .no aI fun x hx=>ih (h x hx)
  |non=>exact .no aI aH
  |som hs h=>exact .no aI fun x hx=>by rw[an]at hx;subst hx;exact ih h
  |enm=>exact .no aI aH
  |uni hs hb ht h5 hf h=>exact .no aI fun x hx=>by rw[an]at hx;subst hx;exact ih h
  |rcd hs hb ht h2 hf h hn hp=>
   refine .no aI fun x hx=>?_;obtain⟨p,hp,rfl⟩:=av.1 hx;exact .fd (ih (h p hp))
theorem Yx(x:Vl):∀l:List Vl,Gp (l++[x])=max (Gp l) (Kq x)
 |[]=>by simp[Gp]
 |y::l=>by rw[ar,Gp,Yx x l,Gp];omega
theorem Qf9(P:Nat->Prop){v:Vl}(hd:Dw v):∀(sl:Value) (w:World),E9 P w sl v.kids->Kq v<=100000 ->
  Calls prog 103 #[Ko v sl] w fun e w'=>e=.returned (.int .i64 (Kq v:Int))/\Below w w w':=by
 induction hd with
 |@fd tx tg x hx ih=>
  intro sl w h hl;obtain⟨A,c,xs,rfl,hks,hlx,hr,hP,hk⟩:=h;obtain⟨⟨y,ys⟩,rfl⟩:∃a,xs=[a]:=by
   cases xs with
   |nil=>simp[Av,Vl.kids]at hks
   |cons a l=>cases l with
    |nil=>exact⟨a,rfl⟩
    |cons b l=>simp[Av,Vl.kids]at hks
  obtain rfl:x=y:=by simpa [Av,Vl.kids]using hks
  have hdp:Kq (.mk 61 tx tg [x])=Kq x:=by simp[Kq,Gp]
  rw[hdp]at hl ⊢;have hkx:=hk (x,ys) aH;obtain⟨A7,c7,e7⟩:=hkx.form;simp only at e7;subst e7;obtain⟨b,off,rfl,hb,d0,d1,d2,d3⟩:=E9.at_ hr (show 0<1 by decide);simp only[List.getElem_cons_zero,Nat.zero_mul,Nat.add_zero]at d0 d1 d2 d3;have Hkx:=Aa hkx;have Ih:=Aa (fun W h=>ih (.slice A7 x.kids.length c7) W h hl);have hbn:¬(b=w.heap.size):=aF;generalize Kq x=n at *;unfold Ko at Ih ⊢;clear hk hr hP hks hkx ih;simp only[Vl.what,Vl.text,Vl.tag,List.length_singleton];go_enter func103,ntmps103;go_wp2_with fail;refine(Ih.o _ (Hkx.o.after ((Ar _ _).alloc (Am _) _))).mono ?_;rintro e w1 ⟨rfl,hb1⟩;have Hb1:=Aa (((Ar w.heap.size w).alloc (Am _) _).trans (hb1.mono aH));clear hb1;go_wp2_with fail;exact iF
 |@no wh tx tg ks hw hks ih=>
  intro sl w h hl;have t61:((wh.toNat:Int) == 61)=false:=Ao (d:=61) hw;have hdp:Kq (.mk wh tx tg ks)=Gp ks+1:=by rw[Kq,if_neg hw]
  rw[hdp]at hl ⊢;simp only[Vl.kids]at h;obtain⟨A,c,xs,rfl,rfl,hlx,hr,hP,hk⟩:=h;have Hdp:=Aa hdp;have Hr:=Aa hr;have Hk:=Aa hk;have Hle:=Aa ((Tg (Av xs) 100000).1 aF);have Ih:=Aa (fun x hx s W h=>ih x hx s W h (Hle.o x hx));clear hr hk hP ih hks hw;unfold Ko;simp only[Vl.what,Vl.text,Vl.tag];have hxl:(Av xs).length=xs.length:=eu;have HF:=Aa (rfl:Av xs=xs.map (·.1));go_enter func103,ntmps103;go_wp2_with fail;obtain⟨w1,hw1⟩:∃w1,w1=w.alloc (.cells #[.int .u8 (wh.toNat:Int),tx,(tg:Int),.slice A xs.length c] 75):=⟨_,rfl⟩
  rw[<-hw1];have Hb1:=Aa (show Below w w w1 by rw[hw1];exact(Ar _ _).alloc (Am _) _);have hz1:w.heap.size<w1.heap.size:=cB;have Hr1:=Aa (Hr.o.below Hb1.o);have Hk1:=Aa (fun x hx=>(Hk.o x hx).after Hb1.o);clear hw1 Hr Hk;go_loopw [17,3] (fun i u wr=>∃m:Nat,i=.int .i64 m/\u=.int .i64 (Gp ((xs.take m).map (·.1)):Int)/\m<=xs.length/\Hid (Gp ((xs.take m).map (·.1))<=100000)/\Hid (Below w1 w1 wr)) (fun i _ _=>xs.length - (intOf i).toNat)
  case atStart=>exact⟨0,rfl,rfl,ae _,ae _,Ar _ _⟩
  case round=>
   obtain⟨m,rfl,rfl,hm,hdm,Hbr⟩:=hrel;have m1:(0:Int)<=(m:Int):=aF;by_cases hlt:m<xs.length
   ·have m2:(m:Int)<(xs.length:Int):=aF;obtain⟨b,off,rfl,hb,d0,d1,d2,d3⟩:=E9.at_ (Hr1.o.below Hbr.o) hlt;have Hkx:=Aa ((Hk1.o _ (ac hlt)).after Hbr.o);have Hmx:=@Aa (xs[m].1∈Av xs) (am (ac hlt));have Hts:=Aa (By xs m hlt);have hsz:w1.heap.size<=wr.heap.size:=Hbr.o.size;have hbn:¬(b=wr.heap.size):=aF;generalize xs[m]=x at *;obtain⟨y,ys⟩:=x;obtain⟨A7,c7,e7⟩:=Hkx.o.form;simp only at e7 d0 d1 d2 d3 Hkx Hmx;subst e7;have hyl:=Hle.o y Hmx.o;have Hx:=Aa (fun W=>Ih.o y Hmx.o (.slice A7 y.kids.length c7) W);have Hsn:=Aa (show Gp ((xs.take (m+1)).map (·.1))=max (Gp ((xs.take m).map (·.1))) (Kq y)by rw[Hts.o,ax];exact Yx y _);unfold Ko at Hx;have hdm':=hdm.o;generalize Gp ((xs.take m).map (·.1))=q at *;generalize Kq y=n at *;go_wp2_with fail;refine(Hx.o _ (Hkx.o.after ((Ar _ _).alloc (Am _) _))).mono ?_;rintro e w3 ⟨rfl,hb3⟩;have Hb3:=Aa (((Ar wr.heap.size wr).alloc (Am _) _).trans (hb3.mono aH));clear hb3;go_wp2_with fail;go_roundw
    case rel=>exact⟨m+1,by go_num,by rw[Hsn.o];congr 1;omega,by omega,by rw[Hsn.o];show max q n<=100000;omega,Hbr.o.trans (Hb3.o.mono hsz)⟩
    case measure=>simp[intOf];omega
   ·obtain rfl:m=xs.length:=aF;have Hb6:=Aa (Hb1.o.trans (Hbr.o.mono aF));have HD:=Aa (show Gp ((xs.take xs.length).map (·.1))=Gp (Av xs)by rw[List.take_length];rfl);have hd2:=hdm.o;generalize Gp ((xs.take xs.length).map (·.1))=q at *;go_wp2_with fail;go_ret;exact⟨Qiz (by have:=HD.o;have:=Hdp.o;omega),Hb6.o⟩
theorem Qhm{st:UInt8}{f:Fd}(h:S9 st f):f.given.length<=14:=by
 by_cases hs:st=69
 ·rw[(h.2.2.2.1 hs).2];simp
 by_cases hg:f.given=[]
 ·rw[hg];simp
 have:=((h.2.2.2.2 hs).2 hg).2.2;unfold Bv at this;split at this
 ·split at this
  ·rename_i n hd;have:=Br.1 hd;rw[this.2];have:=Di 5 n du;omega
  cases this
 split at this
 ·simp only[au,decide_eq_true_eq]at this;have h4:=this.2;unfold Dk at h4;simp only[au,decide_eq_true_eq,List.length_dropLast,List.length_drop]at h4;omega
 split at this
 ·simp only[decide_eq_true_eq]at this;rw[this];simp
 cases this
theorem Qdm(w0:World)(b N:Nat)(p:Value)(XS:List PT)(hsc:Rr w0 p XS)(t:List UInt8)(k:Kd)(w:World)(hw:Below w0 w0 w)(hb:w0.heap.size<=b)(h:Fv w b p t false)(hl:t.length<=900)(hs:k.signs=[])(hbs:k.base=[64])(hnm:k.name.length<=100)
  (x:PT) (hxf:Fc XS k.name=some x) (q:Option (Vl × List UInt8)) (HO:∀W,Below w0 w0 W->Fv W b p t false->Calls prog 158 #[b,.pointer (some ⟨x.blk,0,none⟩)] W (Kb W b p t (N+1) q)):
  Calls prog 99 #[b,Gy k] w (Kb w b p t (N+1) q):=by
 have HH:=Aa HO;obtain⟨pb,A,c,mb,rfl,hpb,hc0,hc1,_,hnd,_,_⟩:=hsc
 have HN:=Aa (fun W (h:Below w0 w0 W)=>show (Instr.lookup 143 (.map (some mb)) k.name false).run prog W=.ok (.pointer (some ⟨x.blk,0,none⟩)) W from by
  have:=Gg (Db.below hnd h) k.name aF;rw[hxf]at this;exact this)
 have HM:=Aa (fun W (h:Below w0 w0 W)=>(h.cell (p:=⟨pb,1,none⟩) hpb).trans hc1);have HS:=Aa h;have HW:=Aa hw;have hb0:=h.1;have hbn:¬(b=w.heap.size):=aF;have hbn2:¬(b=w.heap.size+1):=aF;have c2:=h.2.2.2.2;obtain⟨sg,bs,nm⟩:=k;simp only at hs hbs HN;subst hs hbs;unfold Gy;simp only;clear h hw hxf HO hc0 hc1 hnd;go_enter func99,ntmps99;go_wp2_with fail;refine(Jg _ _ _).mono ?_;rintro e w2 ⟨rfl,hb2⟩;have F2:=Aa ((J7.init (k:=⟨[],[64],nm⟩) HS.o).post hb2);clear hb2 c2;have k0:=Ab F2.o.2.1 0 rfl;have k1:=Ab F2.o.2.1 1 rfl;have k2:=Ab F2.o.2.1 2 rfl;simp only[aj]at k0 k1 k2;go_wp2_with fail;have hlz:=F2.o.2.2.2;have SP:=Aa F2.o.1.1.2.2.1;have hbz:=F2.o.1.1.1;refine Bb [52,53,54,55,56,57,58,59,60,61,62,63,999] aJ aJ aJ (fun u=>by dsimp only[Bp,Bh,List.set,aj,Nat.reduceAdd])
  (fun ix v W=>match ix with|0=>v=b|1=>v=b|2=>v=b|3=>v=b|4=>v=pb|5=>v=pb|6=>v=(pb,1)|7=>v=.map (some mb)|8=>v=(w,2)|9=>v=nm|10=>v=.pointer (some ⟨x.blk,0,none⟩)|11=>∃x s,v=Ko x s|_=>True)
  (fun L U W=>(L 11=false->Below w2 w2 W)/\(L 11=true->L 12=false->∃v sl t',U 11=Ko v sl/\E9 (fun c=>w.heap.size+2<=c) W sl v.kids/\J7 w b pb ⟨[],[64],nm⟩ t' q.isNone W/\(∀x,q=some x->v=x.1/\t'=x.2)/\Bd v/\t'.length<=t.length/\(Bi v).length+t'.length<=t.length+8*(N+1)) /\
  (L 12=true->∃v sl,Kb w b pb t (N+1) q (.returned (.agg (Gv v sl).toArray)) W/\W.rangeAt (w.heap.size+1) 0 (Gv v sl))) (fun _ _=>True) (fun _ _ _ _ _ h=>h) (⟨fun _=>(Ar _ _).drew,fun h=>Bool.noConfusion h,fun h=>Bool.noConfusion h⟩) ?_ ?_
 ·repeat (first|exact Ap.nil|(refine Ap.cons ?_ ?_;rotate_left))
  all_goals
   rintro L U W hL hpre hR hun hdep K hK;have HR:=Aa hR;obtain⟨R1,R2,R3⟩:=HR.o;have Hdep:=Aa hdep;clear hun hdep hR;first|(simp[Region.binds]at hpre;done)|simp[Region.binds]at hpre|clear hpre
  iterate 4
   ·exact fD
  ·have h5:L 5=false:=Dn Hdep.o 5 4 rfl hL;have h6:L 6=false:=Dn Hdep.o 6 5 rfl h5;have h7:L 7=false:=Dn Hdep.o 7 6 rfl h6;have h10:L 10=false:=Dn Hdep.o 10 7 rfl h7;have h11:L 11=false:=Dn Hdep.o 11 10 rfl h10;have hB:=R1 h11;have hW2:=(F2.o.post hB).1.env HW.o hb;have p0:W.cell? (b,0)=pb:=(hB.cell (p:=⟨b,0,none⟩) hbz).trans SP.o;exact iA
  iterate 2
   ·exact fD
  ·have h10:L 10=false:=Dn Hdep.o 10 7 rfl hL;have h11:L 11=false:=Dn Hdep.o 11 10 rfl h10;have hB:=R1 h11;have hW2:=(F2.o.post hB).1.env HW.o hb;have m1:=HM.o W hW2;exact iA
  ·exact fD
  ·have h10:L 10=false:=Dn Hdep.o 10 9 rfl hL;have h11:L 11=false:=Dn Hdep.o 11 10 rfl h10;have hB:=R1 h11;have hW2:=(F2.o.post hB).1.env HW.o hb;have n2:W.cell? (w,2)=nm:=(hB.cell (p:=⟨w.heap.size,2,none⟩) (show w.heap.size<_ by omega)).trans k2;exact iA
  ·have h11:L 11=false:=Dn Hdep.o 11 10 rfl hL;have hB:=R1 h11;have hW2:=(F2.o.post hB).1.env HW.o hb;have hlk:=HN.o W hW2;exact iA
  ·have h12:L 12=false:=Dn Hdep.o 12 11 rfl hL;have hB:=R1 hL;have F3:=F2.o.post hB;go_simp;refine(HH.o W (F3.1.env HW.o hb) F3.1.1).mono ?_;rintro e w5 ⟨v,sl,t',rfl,hk5,hs5,hx5,hB5,hl5,hn5⟩;exact hK (Ko v sl) _ _ ⟨v,sl,rfl⟩ Ac ⟨fun h=>by simp at h,fun _ _=>⟨v,sl,t',rfl,hk5.mono fun c hc _=>(by have:=hB.size;omega),F3.step hb0 hs5,hx5,hB5,hl5,hn5⟩,fun h=>absurd (h12.symm.trans aV) aI⟩ aG
  ·have l11:L 11=true:=hpre.1.1;obtain⟨v,sl,t',u11,hk5,F5,hx5,hB5,hl5,hn5⟩:=R2 l11 hL;obtain⟨A7,c7,rfl⟩:=hk5.form;have Z:=J7.fin (w9:=W.setCells (w.heap.size+1) 0 (Gv v (.slice A7 v.kids.length c7))) (t:=t) (N:=N+1) (v:=v) (sl:=.slice A7 v.kids.length c7) (r:=q) F5 hb0 rfl hk5 rfl hx5 hB5 hl5 hn5;rw[if_pos d9];refine wp_store_mid 75 _ _ rfl (w.heap.size+1) 0 (Gv v (.slice A7 v.kids.length c7)).toArray rfl u11 F5.2.2.1 aJ (by simp[Gv,Value.oneCell']) ?_;exact hK undef _ _ Ac Ac ⟨fun h=>absurd (l11.symm.trans aV) aI,fun _ h=>by simp at h,fun _=>⟨v,_,Z.1,Z.2⟩⟩ rfl
 rintro L U W hL hφ hR;clear hφ;obtain⟨_,_,h3⟩:=hR;obtain⟨v,sl,Z1,Z2⟩:=h3 (hL 12 aI);clear hL h3;go_wp2_with fail;exact aD (v:=.agg (Gv v sl).toArray) (Ax results99 _ _ (w.heap.size+1) _ _ rfl Z2 underlying75 rfl aJ) rfl Z1
theorem Qcu(w0:World)(b N:Nat)(p:Value)(S:List Ty)(t:List UInt8)(k:Kd)(w:World)(hw:Below w0 w0 w)(hb:w0.heap.size<=b)(h:Fv w b p t false)(hl:t.length<=900)(hN:t.length<=N)(hN2:N<=2000)(sg:List UInt8)(hs:k.signs=91::sg)(hsl:sg.length<=100)
  (H:IvC w0 b p S N k.part) (HG:∀s v r,Al S 1000 N k.part s=some (v,r)->s=Bi v++r) (q:Option (Vl × List UInt8)) (hq:q=S6 (Al S 1000 N k.part) 1000 t):
  Calls prog 99 #[b,Gy k] w (Kb w b p t (N+1) q):=by
 have HL:=Aa (fun W (h1:Below w0 w0 W) (h2:Fv W b p t false)=>Qfl w0 b N p S t k.part W h1 hb h2 hl hN hN2 H HG q hq);have HP:=Aa (fun W=>Ye k W 91 sg hs aF);have HS:=Aa h;have HW:=Aa hw;have hb0:=h.1;have hbn:¬(b=w.heap.size):=aF;have hbn2:¬(b=w.heap.size+1):=aF;have c2:=h.2.2.2.2;obtain⟨sg',bs,nm⟩:=k;simp only at hs;subst hs;generalize hkp:(⟨91::sg,bs,nm⟩:Kd).part=kp at *;unfold Gy at HP ⊢ HL;simp only at HP ⊢;clear h hq hw H HG hkp;go_enter func99,ntmps99;go_wp2_with fail;refine(J9 91 sg aF _ _ _).mono ?_;rintro e w2 ⟨rfl,hb2⟩;have F2:=Aa ((J7.init (k:=⟨91::sg,bs,nm⟩) HS.o).post hb2);clear hb2 c2;have k0:=Ab F2.o.2.1 0 rfl;have k1:=Ab F2.o.2.1 1 rfl;have k2:=Ab F2.o.2.1 2 rfl;simp only[aj]at k0 k1 k2;go_wp2_with fail;refine(HP.o _).mono ?_;rintro e w3 ⟨rfl,hb3⟩;have F3:=Aa (F2.o.post hb3);clear hb3 k0 k1 k2;go_wp2_with fail;refine(HL.o _ (F3.o.1.env HW.o hb) F3.o.1.1).mono ?_;rintro e w4 ⟨v,sl,t',rfl,hk4,hs4,hx4,hB4,hl4,hn4⟩;obtain⟨A7,c7,rfl⟩:=hk4.form;have F4:=Aa (F3.o.step hb0 hs4);have hz3:=F3.o.2.2.2;have Hk4:=Aa hk4;have Hx4:=Aa hx4;have HB4:=Aa hB4;clear hs4 hk4 hx4 hB4;unfold Ko;go_wp2_with ((with_reducible refine Ad (op:=⟨none,.store 75 _ _,_,_,_,none⟩) rfl 75 _ _ rfl (w.heap.size+1) 0 (Gv v (.slice A7 v.kids.length c7)) ?_ ?_ ?_ ?_ ?_ ?_);rfl;rfl;(exact F4.o.2.2.1);kernel_rfl;(simp[Gv,Value.oneCell']);intro w9 HS9)
 have Z:=J7.fin (t:=t) (N:=N+1) (v:=v) (sl:=.slice A7 v.kids.length c7) (r:=q) F4.o hb0 HS9.o (Hk4.o.mono fun c hc _=>by omega) rfl Hx4.o HB4.o hl4 hn4;exact aD (v:=.agg (Gv v (.slice A7 v.kids.length c7)).toArray) (Ax results99 _ _ (w.heap.size+1) _ _ rfl Z.2 underlying75 rfl aJ) rfl Z.1
theorem Qcp(w0:World)(b:Nat)(p:Value)(XS:List PT)(hsc:Rr w0 p XS)(hS:Jv (Ae XS))(hb:w0.heap.size<=b):∀(N:Nat),N<=2000->∀(k:Kd),Cs k->Bq (Ae XS) k->IvC w0 b p (Ae XS) N k:=by
 intro N;induction N with
 |zero=>
  intro _ k hk hr t bad w hw h hl hN;cases bad with
  |true=>exact Vi b 0 p t k w h
  |false=>exact absurd (hN rfl) (Nat.not_lt_zero _)
 |succ N ih=>
  intro hN2 k hk hr t bad w hw h hl hN;cases bad with
  |true=>exact Vi b (N+1) p t k w h
  |false=>
   have hN:=Nat.le_of_lt_succ (hN rfl);rw[if_neg aI];have hTy:∀t∈Ae XS,En t:=hS.1.1;unfold Al;cases hs:k.signs with
   |cons c sg=>
    simp only;have hsl:sg.length<=100:=by have:=hk.2.2;unfold Be at this;rw[hs]at this;simp at this;omega
    have hp:=(M8 hk).1;have hrp:Bq (Ae XS) k.part:=hr;rcases Qa0 hk hs with rfl|rfl
    ·rw[if_pos rfl];exact Qcu w0 b N p (Ae XS) t k w hw hb h hl hN aF sg hs hsl (ih aF k.part hp hrp) (fun s v r h=>(Fp hTy 1000 N k.part s v r hp h).2) _ rfl
    rw[if_neg aI];exact Qdg w0 b N p (Ae XS) t k w hw hb h hl hN aF sg hs hsl (ih aF k.part hp hrp) _ rfl
   |nil=>
    simp only;by_cases h1:k.base=[110]
    ·rw[if_pos h1];exact Qhs b N p t k w h hl hs h1 _ rfl
    rw[if_neg h1];by_cases h2:k.base=[116]
    ·rw[if_pos h2];exact Qht b N p t k w h hl hs h2 _ rfl
    rw[if_neg h2];by_cases h3:k.base=[102]
    ·rw[if_pos h3];exact Qhw b N p t k w h hl hs h3 _ rfl
    rw[if_neg h3];have h64:k.base=[64]:=by
     rcases hk.2.1 with h|⟨h|h|h,_⟩
     ·exact h.1
     ·exact absurd h h1
     ·exact absurd h h2
     exact absurd h h3
    have hnm:k.name.length<=100:=by
     rcases hk.2.1 with h|⟨_,h⟩
     ·have:=(Dj.1 h.2).2.1;omega
     rw[h];simp
    have hr2:=hr h64;rw[Jm]at hr2 ⊢;cases hx:Fc XS k.name with
    |none=>rw[hx]at hr2;cases hr2
    |some x=>
     simp only[Option.map_some];have hxm:=(Gm hx).1;have hxt:=(Gm hx).2.2;have hxi:Td w0 x:=by obtain⟨_,_,_,_,_,_,_,_,_,_,h6,_⟩:=hsc;exact h6 x hxm
     have hto:=hTy x.ty (am hxm);refine Qdm w0 b N p XS hsc t k w hw hb h hl hs h64 hnm x hx _ fun W hW hSc=>?_;have htg:∀f∈x.ty.fields,f.tag<=200:=fun f hf=>(hto.2.2.1.1 f hf).2.1;by_cases h9:x.ty.sort=69
     ·exact Qg9 w0 b N p (Ae XS) x hxi h9 t W hW hb hSc hl _ rfl
     have hfk:∀f∈x.ty.fields,Cs f.kind/\Bq (Ae XS) f.kind/\f.given.length<=1000:=fun f hf=>
      ⟨(Sj hTy hxt h9 hf).1,hS.2.1 x.ty (Ch hxt).1 h9 f hf,by have:=Qhm (hto.2.2.1.1 f hf);omega⟩
     have HF:∀f∈x.ty.fields,IvC w0 b p (Ae XS) N f.kind:=fun f hf=>ih aF f.kind (hfk f hf).1 (hfk f hf).2.1;by_cases h5:x.ty.sort=85
     ·exact Qhg w0 b N p (Ae XS) x hxi h5 t W hW hb hSc hl hN aF htg HF _ rfl
     have h82:x.ty.sort=82:=by
      rcases hto.1 with h|h|h
      ·exact h
      ·exact absurd h h5
      exact absurd h h9
     exact Qg7 w0 b N p XS hsc hS x hxi h82 t W hW hb hSc hl hN aF htg hfk HF (fun f hf s v r h=>(Fp hTy 1000 N f.kind s v r (hfk f hf).1 h).2) _ rfl
def Qj(o:Option Vl)(w:World)(e:Ending)(w':World):Prop:=
 (∃v sl,e=.returned (.tuple #[Ko v sl,.bool o.isSome])/\E9 (fun b=>w.heap.size<=b) w' sl v.kids/\∀x,o=some x->v=x)/\Below w w w'
theorem Qj.no{o:Option Vl}{w w':World}{e:Ending}(ho:o=none)(he:e=.returned (.tuple #[Ko Fk (.slice none 0 0),.bool false]))(hb:Below w w w'):Qj o w e w':=by
 subst ho;exact⟨⟨Fk,_,he,E9.nil _ _,by simp⟩,hb⟩
theorem Qes(p:Value)(XS:List PT)(hS:Jv (Ae XS))(k:Kd)(hk:Cs k)(hr:Bq (Ae XS) k)(s:List UInt8)(w:World)(hsc:Rr w p XS)(hs:s.length<=4000000):
  Calls prog 119 #[p,Gy k,s] w (Qj (Mr (Ae XS) k s) w):=by
 have hTy:∀t∈Ae XS,En t:=hS.1.1;by_cases hl:400<s.length
 ·have HQ:=Aa (show Mr (Ae XS) k s=none by unfold Mr;rw[if_pos hl]);have t1:decide ((400:Int)<(s.length:Int))=true:=aB aF;have TH:=B9 (w.alloc (.cells #[k.signs,k.base,k.name] 67)) [.int .u8 0,a6,.int .i64 0,.slice none 0 0] 75;simp at TH;have BL:Below w w ((w.alloc (.cells #[k.signs,k.base,k.name] 67)).alloc (.cells #[.int .u8 0,a6,.int .i64 0,.slice none 0 0] 75)):=((Ar _ _).alloc (Am _) _).alloc aH _;unfold Gy;go_enter func119,ntmps119;go_wp2_with ((with_reducible refine Ad (op:=⟨none,.store 75 _ _,_,_,_,none⟩) rfl 75 _ _ rfl (w.heap.size+1) 0 [.int .u8 0,a6,.int .i64 0,.slice none 0 0] ?_ ?_ ?_ ?_ ?_ ?_);rfl;rfl;(exact TH);kernel_rfl;(simp[Gv,Value.oneCell']);intro w9 HS9)
  have HZ:=(by rw[HS9.o];exact a7 _ _ _ _ (TH):w9.rangeAt (w.heap.size+1) 0 (Gv Fk (.slice none 0 0)))
  refine aD (v:=.tuple #[.agg (Gv Fk (.slice none 0 0)).toArray,.bool false]) (Aj results119 _ _ (w.heap.size+1) _ _ _ rfl rfl HZ underlying75 rfl aJ) rfl ?_;exact Qj.no HQ.o rfl (by rw[HS9.o];exact Ag _ aF _ _ _ BL)
 have HQ0:=Aa (Qfd hTy hk (by omega:s.length<=400) 1000 500 aF aF);have t1:decide ((400:Int)<(s.length:Int))=false:=aA aF;have HG:=Aa (fun v r=>Fp hTy 1000 500 k s v r hk);have HV:=Aa (fun w0 b (h0:Rr w0 p XS) hb W (hW:Below w0 w0 W) (h2:Fv W b p s false)=>Qcp w0 b p XS h0 hS hb 500 aF k hk hr s false W hW h2 aF (fun _=>by omega));simp only[ak,if_false]at HV;generalize Mr (Ae XS) k s=q at *;generalize hrd:Al (Ae XS) 1000 500 k s=rd at *;have Hsc:=Aa hsc;obtain⟨pb,_,_,_,rfl,_⟩:=hsc;unfold Gy at HV ⊢;clear hrd hS hk hr hTy;go_enter func119,ntmps119;go_wp2_with fail;obtain⟨W1,hW1⟩:∃W1,W1=(w.alloc (.cells #[k.signs,k.base,k.name] 67)).alloc (.cells #[.int .u8 0,a6,.int .i64 0,.slice none 0 0] 75):=⟨_,rfl⟩
 rw[<-hW1];have hz1:W1.heap.size=w.heap.size+2:=ei;have B1:=Aa (show Below w w W1 by rw[hW1];exact((Ar _ _).alloc (Am _) _).alloc aH _);have T1:=Aa (show W1.there (w.heap.size+1) 0 4 by rw[hW1];have:=B9 (w.alloc (.cells #[k.signs,k.base,k.name] 67)) [.int .u8 0,a6,.int .i64 0,.slice none 0 0] 75;simpa using this);clear hW1;obtain⟨W2,hW2⟩:∃W2,W2=W1.alloc (.cells #[pb,s,.bool false] 72):=⟨_,rfl⟩
 have hb2:Below W1 W1 W2:=by rw[hW2];exact(Ar _ _).alloc (Am _) _
 have S2:=@Aa (Fv W2 W1.heap.size pb s false) (by rw[hW2];exact⟨by simp,Qi.new _ _ _,by simp,by simp,by simp⟩);rw[hz1]at S2;rw[<-hW2];refine(HV.o W1 (w.heap.size+1+1) (Hsc.o.below B1.o) aF W2 hb2 S2.o).mono ?_;rintro e w3 ⟨v,sl,t',rfl,hk3,hs3,hx3,hB3,hl3,hn3⟩;obtain⟨A7,c7,rfl⟩:=hk3.form;have hz2:W1.heap.size<W2.heap.size:=by rw[hW2];simp
 have T3:=Aa (Gl (An T1.o aF hb2) hs3.2 aF aH);have B3:=@Aa (Below w w w3) ((B1.o.trans (hb2.mono aF)).grown hs3.2 aF (fun k e=>by injection e with e;omega));have S3:=Aa hs3.1;have hz3:W2.heap.size<=w3.heap.size:=hs3.2.size;have Hk3:=Aa hk3;have Hx3:=Aa hx3;have T4:=Aa (fun o=>An T3.o aF ((Ar w3.heap.size w3).alloc (Am _) o));have B4:=Aa (fun o=>B3.o.alloc B3.o.size o);clear hs3 hk3 hx3 HV hW2 hb2 T1 B1 hB3;unfold Ko;have c1:=S3.o.2.2.2.1;have c2:=S3.o.2.2.2.2;have hbw:=S3.o.1;have hbn:¬(w.heap.size+1+1=w3.heap.size):=aF;cases rd with
 |none=>
  have HQ:=@Aa (q=none) HQ0.o;simp only[Option.isNone_none]at c2;go_wp2_with ((with_reducible refine Ad (op:=⟨none,.store 75 _ _,_,_,_,none⟩) rfl 75 _ _ rfl (w.heap.size+1) 0 [.int .u8 0,a6,.int .i64 0,.slice none 0 0] ?_ ?_ ?_ ?_ ?_ ?_);rfl;rfl;(exact T4.o _);kernel_rfl;(simp[Gv,Value.oneCell']);intro w9 HS9)
  have HZ:=(by rw[HS9.o];exact a7 _ _ _ _ (T4.o _):w9.rangeAt (w.heap.size+1) 0 (Gv Fk (.slice none 0 0)))
  refine aD (v:=.tuple #[.agg (Gv Fk (.slice none 0 0)).toArray,.bool false]) (Aj results119 _ _ (w.heap.size+1) _ _ _ rfl rfl HZ underlying75 rfl aJ) rfl ?_;exact Qj.no HQ.o rfl ey
 |some y=>
  obtain⟨v0,r⟩:=y;obtain⟨rfl,rfl⟩:=Hx3.o _ rfl;have hv:=(HG.o v t' rfl).1;simp only[Option.isNone_some]at c2;have hd5:Kq v<=500:=(Gq _ _ _ _ hv 500).1 hv;have HD:=Aa (fun W (h:Below w3 w3 W)=>Qf9 _ hv.dw (.slice A7 v.kids.length c7) W (Hk3.o.after h) aF);unfold Ko at HD;cases ht:t' with
  |cons c u=>
   rw[ht]at HQ0 c1;have HQ:=@Aa (q=none) HQ0.o;clear ht;go_wp2_with ((with_reducible refine Ad (op:=⟨none,.store 75 _ _,_,_,_,none⟩) rfl 75 _ _ rfl (w.heap.size+1) 0 [.int .u8 0,a6,.int .i64 0,.slice none 0 0] ?_ ?_ ?_ ?_ ?_ ?_);rfl;rfl;(exact T4.o _);kernel_rfl;(simp[Gv,Value.oneCell']);intro w9 HS9)
   have HZ:=(by rw[HS9.o];exact a7 _ _ _ _ (T4.o _):w9.rangeAt (w.heap.size+1) 0 (Gv Fk (.slice none 0 0)))
   refine aD (v:=.tuple #[.agg (Gv Fk (.slice none 0 0)).toArray,.bool false]) (Aj results119 _ _ (w.heap.size+1) _ _ _ rfl rfl HZ underlying75 rfl aJ) rfl ?_;exact Qj.no HQ.o rfl ey
  |nil=>
   rw[ht]at HQ0 c1;have HQ1:=@Aa (q=if Kq v<=12 then some v else none) HQ0.o;clear ht hv;go_wp2_with fail;refine(HD.o _ ((Ar _ _).alloc (Am _) _)).mono ?_;rintro e w5 ⟨rfl,hb5⟩;have hb5':Below w3 w3 w5:=((Ar w3.heap.size w3).alloc (Am _) _).trans (hb5.mono aH);have T5:=Aa (An T3.o aF hb5');have B5:=Aa (B3.o.trans (hb5'.mono B3.o.size));have X5:=Aa (Ah (Bo w3 (Gv v (.slice A7 v.kids.length c7)) 75) aH hb5);have hz5:=hb5'.size;have d0:=Ab X5.o 0 rfl;have d1:=Ab X5.o 1 rfl;have d2:=Ab X5.o 2 rfl;have d3:=Ab X5.o 3 rfl;simp only[aj]at d0 d1 d2 d3;have Hk5:=Aa (Hk3.o.after hb5');clear hb5 hb5';by_cases h12:Kq v<=12
   ·have t2:decide ((12:Int)<(Kq v:Int))=false:=aA aF;have HQ:=Aa (show q=some v by rw[HQ1.o,if_pos h12]);clear HQ1 HQ0;generalize Kq v=n at *;go_wp2_with ((with_reducible refine Ad (op:=⟨none,.store 75 _ _,_,_,_,none⟩) rfl 75 _ _ rfl (w.heap.size+1) 0 (Gv v (.slice A7 v.kids.length c7)) ?_ ?_ ?_ ?_ ?_ ?_);rfl;rfl;(exact T5.o);kernel_rfl;(simp[Gv,Value.oneCell']);intro w9 HS9)
    have HZ:w9.rangeAt (w.heap.size+1) 0 (Gv v (.slice A7 v.kids.length c7)):=by rw[HS9.o];exact a7 _ _ _ _ T5.o
    refine aD (v:=.tuple #[.agg (Gv v (.slice A7 v.kids.length c7)).toArray,.bool true]) (Aj results119 _ _ (w.heap.size+1) _ _ _ rfl rfl HZ underlying75 rfl aJ) rfl ?_;rw[HQ.o,HS9.o];exact⟨⟨v,_,rfl,(Hk5.o.set (B:=w.heap.size+1) aF _).mono (fun c hc _=>by omega),by simp⟩,Ag _ aF _ _ _ B5.o⟩
   have t2:decide ((12:Int)<(Kq v:Int))=true:=aB aF;have HQ:=Aa (show q=none by rw[HQ1.o,if_neg h12]);clear HQ1 HQ0;generalize Kq v=n at *;go_wp2_with ((with_reducible refine Ad (op:=⟨none,.store 75 _ _,_,_,_,none⟩) rfl 75 _ _ rfl (w.heap.size+1) 0 [.int .u8 0,a6,.int .i64 0,.slice none 0 0] ?_ ?_ ?_ ?_ ?_ ?_);rfl;rfl;(exact T5.o);kernel_rfl;(simp[Gv,Value.oneCell']);intro w9 HS9)
   have HZ:=(by rw[HS9.o];exact a7 _ _ _ _ (T5.o):w9.rangeAt (w.heap.size+1) 0 (Gv Fk (.slice none 0 0)))
   refine aD (v:=.tuple #[.agg (Gv Fk (.slice none 0 0)).toArray,.bool false]) (Aj results119 _ _ (w.heap.size+1) _ _ _ rfl rfl HZ underlying75 rfl aJ) rfl ?_;exact Qj.no HQ.o rfl (by rw[HS9.o];exact Ag _ aF _ _ _ B5.o)
section
variable {P:Program}
theorem Pv{fn:Func}{r p p2 q:Tmp}{ty ty2:TypeId}(h:fn.results=#[.tmp r,.cell p ty,.cell p2 ty2,.tmp q])(tmps:Array Value)(w:World)(b b2:Nat)(cs cs2:List Value)(d d2:TypeDesc)(y x:Value)
  (hr:tmps.getD r undef=y) (hp:tmps.getD p undef=b) (hp2:tmps.getD p2 undef=b2) (hq:tmps.getD q undef=x) (hc:w.rangeAt b 0 cs) (hc2:w.rangeAt b2 0 cs2)
  (hu:P.underlying ty=some d) (hd:d.isRow=true) (hi:(P.info? ty).map (·.size)=some cs.length) (hu2:P.underlying ty2=some d2) (hd2:d2.isRow=true) (hi2:(P.info? ty2).map (·.size)=some cs2.length):
  (results fn tmps).run P w=.ok (.tuple #[y,.agg cs.toArray,.agg cs2.toArray,x]) w:=by
 have hp':tmps[p]?.getD undef=b:=dS;have hp2':tmps[p2]?.getD undef=b2:=by simpa using hp2
 have hq':tmps[q]?.getD undef=x:=eD;have hr':tmps[r]?.getD undef=y:=dp;simp[results,h,hp',hp2',hq',hr',asAddr,run_loadVar_mid w b 0 ty cs d hc hu hd hi,run_loadVar_mid w b2 0 ty2 cs2 d2 hc2 hu2 hd2 hi2]
end
theorem Nn.low{lo lo':Nat}{w:World}{p:Value}{xs:List PT}(h:Nn lo w p xs)(hl:lo'<=lo):Nn lo' w p xs:=by
 obtain⟨b,A,c,mb,e,h0,h1,h2,h3,h4,h5,h6,l1,l2,l3,l4⟩:=h;exact⟨b,A,c,mb,e,h0,h1,h2,h3,h4,h5,h6,by omega,by omega,fun g o hn e=>by have:=l3 g o hn e;omega,fun x hx=>⟨by have:=(l4 x hx).1;omega,fun k hn hk=>by have:=(l4 x hx).2 k hn hk;omega⟩⟩
def Zc(o:Option (List Ty × Kd))(x:List UInt8)(w:World)(e:Ending)(w':World):Prop:=
 (∃p k1 k2 k3 v sl,e=.returned (.tuple #[.pointer p,.agg #[.string k1,.string k2,.string k3],Ko v sl,.bool (S5 o x).isSome])/\E9 (fun c=>w.heap.size<=c) w' sl v.kids /\
  ∀y,S5 o x=some y->v=y/\∃S k xs,o=some (S,k)/\Ae xs=S/\k1=⟨k.signs.toArray⟩/\k2=⟨k.base.toArray⟩/\k3=⟨k.name.toArray⟩/\Nn w.heap.size w' (.pointer p) xs)/\Below w w w'
theorem Zc.no{o:Option (List Ty × Kd)}{x:List UInt8}{w w':World}{e:Ending}(ho:S5 o x=none){p:Option Addr}{k1 k2 k3:ByteArray}{v:Vl}{sl:Value}(he:e=.returned (.tuple #[.pointer p,.agg #[.string k1,.string k2,.string k3],Ko v sl,.bool false]))(hs:E9 (fun c=>w.heap.size<=c) w' sl v.kids)(hb:Below w w w'):Zc o x w e w':=by
 refine⟨⟨p,k1,k2,k3,v,sl,by rw[ho];exact he,hs,fun y hy=>?_⟩,hb⟩;rw[ho]at hy;cases hy
theorem Qc6(s d x:List UInt8)(w:World)(hs:s.length<=4000000)(hd:d.length<=4000000)(hx:x.length<=4000000):
  Calls prog 57 #[s,d,x] w (Zc (Bn s d) x w):=by
 have Hbo:=Aa (fun W=>Ph s d W hs hd);have HGo:=Aa (fun S k (h:Bn s d=some (S,k))=>Fq h);generalize Bn s d=o at *;go_enter func57,ntmps57;go_wp2_with fail;obtain⟨W1,hW1⟩:∃W1,W1=(w.alloc (.cells #[a6,a6,a6] 67)).alloc (.cells #[.int .u8 0,a6,.int .i64 0,.slice none 0 0] 75):=⟨_,rfl⟩
 rw[<-hW1];have hz1:W1.heap.size=w.heap.size+2:=ei;have B1:=Aa (show Below w w W1 by rw[hW1];exact((Ar _ _).alloc (Am _) _).alloc aH _);have TK1:=Aa (show W1.there w 0 3 by rw[hW1];exact ap (B9 w [a6,a6,a6] 67) _);have TV1:=Aa (show W1.there (w.heap.size+1) 0 4 by rw[hW1];have:=B9 (w.alloc (.cells #[a6,a6,a6] 67)) [.int .u8 0,a6,.int .i64 0,.slice none 0 0] 75;simpa using this);clear hW1;refine(Hbo.o W1).mono ?_;rintro e W2 ⟨hcase,hb2⟩;have hz2:=hb2.size;have TK2:=Aa (An TK1.o aF hb2);have TV2:=Aa (An TV1.o aF hb2);have B2:=Aa (B1.o.trans (hb2.mono aF));clear hb2;cases o with
 |none=>
  obtain⟨p,a,b,c,rfl⟩:=hcase;obtain⟨W3,hW3⟩:∃W3,W3=W2.alloc (.cells #[.string a,.string b,.string c] 67):=⟨_,rfl⟩
  have hb3:Below W2 W2 W3:=eZ;have TK3:=Aa (An TK2.o aF hb3);have TV3:=Aa (An TV2.o aF hb3);have B3:=Aa (B2.o.trans (hb3.mono B2.o.size));have HW3:=Aa hW3;clear hb3 hW3;go_wp2_with (first|((with_reducible refine Ad (op:=⟨none,.store 67 _ _,_,_,_,none⟩) rfl 67 _ _ rfl w 0 [a6,a6,a6] ?_ ?_ ?_ ?_ ?_ ?_);rfl;rfl;(rw[<-HW3.o];exact TK3.o);kernel_rfl;(simp[Value.oneCell']);intro w8 HS8)|((with_reducible refine Ad (op:=⟨none,.store 75 _ _,_,_,_,none⟩) rfl 75 _ _ rfl (w.heap.size+1) 0 [.int .u8 0,a6,.int .i64 0,.slice none 0 0] ?_ ?_ ?_ ?_ ?_ ?_);rfl;rfl;(rw[HS8.o,<-HW3.o];exact ag TV3.o _ _ _);kernel_rfl;(simp[Value.oneCell']);intro w9 HS9))
  rw[<-HW3.o]at HS8;have TV8:=Aa (show w8.there (w.heap.size+1) 0 4 by rw[HS8.o];exact ag TV3.o _ _ _);have RK8:=Aa (show w8.rangeAt w 0 [a6,a6,a6]by rw[HS8.o];exact a7 _ _ _ _ TK3.o);have B8:=Aa (show Below w w w8 by rw[HS8.o];exact Ag _ (Am _) _ _ _ B3.o);have RK9:=(by rw[HS9.o];exact ai RK8.o _ _ _ (.inl aF):w9.rangeAt w 0 [a6,a6,a6])
  have RV9:=(by rw[HS9.o];exact a7 _ _ _ _ TV8.o:w9.rangeAt (w.heap.size+1) 0 [.int .u8 0,a6,.int .i64 0,.slice none 0 0])
  refine aD (v:=.tuple #[.pointer none,.agg ([a6,a6,a6]:List Value).toArray,.agg ([.int .u8 0,a6,.int .i64 0,.slice none 0 0]:List Value).toArray,.bool false]) ?_ rfl ?_
  ·exact Pv results57 _ _ w.heap.size (w.heap.size+1) _ _ _ _ _ _ rfl rfl rfl rfl RK9 RV9 underlying67 rfl aJ underlying75 rfl aJ
  exact Zc.no (v:=Fk) (sl:=.slice none 0 0) rfl rfl (E9.nil _ _) (by rw[HS9.o];exact Ag _ aF _ _ _ B8.o)
 |some y=>
  obtain⟨S,k⟩:=y;obtain⟨p,xs,rfl,rfl,hsl⟩:=hcase;obtain⟨g1,_,_,g4,_,g6⟩:=HGo.o _ k rfl;have Hsl:=@Aa (Nn (w.heap.size+2) W2 p xs) (by rw[<-hz1];exact hsl);obtain⟨pb,_,_,_,rfl,_⟩:=hsl;have Hrd:=Aa (fun W (h:Rr W pb xs)=>Qes pb xs g1 k g4 g6 x W h hx);have HV:=@Aa (S5 (some (Ae xs,k)) x=Mr (Ae xs) k x) rfl;generalize Mr (Ae xs) k x=o at *;clear g1 g4 g6 HGo Hbo;obtain⟨W3,hW3⟩:∃W3,W3=W2.alloc (.cells #[k.signs,k.base,k.name] 67):=⟨_,rfl⟩
  have hb3:Below W2 W2 W3:=eZ;have TK3:=Aa (An TK2.o aF hb3);have TV3:=Aa (An TV2.o aF hb3);have B3:=Aa (B2.o.trans (hb3.mono B2.o.size));have SL3:=Aa (Hsl.o.below hb3);have RS3:=Aa (show W3.rangeAt W2 0 [k.signs,k.base,k.name]by rw[hW3];exact Bo W2 [k.signs,k.base,k.name] 67);have hz3:W3.heap.size=W2.heap.size+1:=by rw[hW3];simp
  have HW3:=Aa hW3;clear hb3 hW3;unfold Gy at Hrd ⊢;go_wp2_with fail;rw[<-HW3.o];refine(Hrd.o W3 SL3.o.isc).mono ?_;rintro e W4 ⟨⟨vl,sl,rfl,hs4,hx4⟩,hb4⟩;obtain⟨A4,c4,rfl⟩:=hs4.form;have hz4:=hb4.size;have Hx4:=Aa hx4;obtain⟨W5,hW5⟩:∃W5,W5=W4.alloc (.cells #[.int .u8 (vl.what.toNat:Int),vl.text,(vl.tag:Int),.slice A4 vl.kids.length c4] 75):=⟨_,rfl⟩
  have hb45:Below W4 W4 W5:=dx;have hb5:Below W3 W3 W5:=hb4.trans (hb45.mono hb4.size);have TK5:=Aa (An TK3.o aF hb5);have TV5:=Aa (An TV3.o aF hb5);have B5:=Aa (B3.o.trans (hb5.mono B3.o.size));have SL5:=Aa (SL3.o.below hb5);have RS5:=Aa (Ah RS3.o aF hb5);have RV5:=Aa (show W5.rangeAt W4 0 (Sl (vl,.slice A4 vl.kids.length c4))by rw[hW5];exact Bo W4 (Sl (vl,.slice A4 vl.kids.length c4)) 75);have HS5:=Aa ((hs4.after hb45).mono (Q:=fun c=>w.heap.size+2<=c) fun c hc _=>by have:W3.heap.size<=c:=hc;omega);have HW5:=Aa hW5;have hz5:W4.heap.size<W5.heap.size:=by rw[hW5];simp
  clear hW5 hb45 hb5 hb4 hs4 hx4 Hrd;unfold Ko;go_upto_region 5 with fail
  rw[<-HW5.o];refine M0 [32,33,34,35,6,999,998,9]
   (fun ix v W=>match ix with|0=>v=pb|1=>v=.agg #[k.signs,k.base,k.name]|2=>v=.agg #[.int .u8 (vl.what.toNat:Int),vl.text,(vl.tag:Int),.slice A4 vl.kids.length c4]|3=>v=.bool o.isSome|4=>v=pb|7=>v=.bool o.isSome|_=>True)
   (fun L U W=>Below w w W/\W.there w 0 3/\W.there (w.heap.size+1) 0 4/\W.rangeAt W2 0 [k.signs,k.base,k.name]/\W.rangeAt W4 0 (Sl (vl,.slice A4 vl.kids.length c4))/\Nn (w.heap.size+2) W pb xs/\E9 (fun c=>w.heap.size+2<=c) W (.slice A4 vl.kids.length c4) vl.kids/\(L 5=true->W.rangeAt w 0 [k.signs,k.base,k.name])/\(L 6=true->W.rangeAt (w.heap.size+1) 0 (Sl (vl,.slice A4 vl.kids.length c4)))) (⟨B5.o.drew,by simpa using TK5.o,by simpa using TV5.o,by simpa using RS5.o,by simpa using RV5.o,SL5.o.below ((Ar _ _).drew),HS5.o.after ((Ar _ _).drew),fun h=>Bool.noConfusion h,fun h=>Bool.noConfusion h⟩) ?_ ?_
  ·repeat (first|exact Ap.nil|(refine Ap.cons ?_ ?_;rotate_left))
   all_goals
    rintro L U W hL hpre HR Hdep K hK;obtain⟨r1,r2,r3,r4,r5,r6,r7,r8,r9⟩:=HR.o;have c0:W.cell? (W2,0)=k.signs:=by simpa using Ab r4 0 rfl
    have c1:W.cell? (W2,1)=k.base:=by simpa using Ab r4 1 rfl
    have c2:W.cell? (W2,2)=k.name:=by simpa using Ab r4 2 rfl
    have d0:W.cell? (W4,0)=some (.int .u8 (vl.what.toNat:Int)):=by simpa using Ab r5 0 rfl
    have d1:W.cell? (W4,1)=vl.text:=by simpa using Ab r5 1 rfl
    have d2:W.cell? (W4,2)=(vl.tag:Int):=by simpa using Ab r5 2 rfl
    have d3:W.cell? (W4,3)=some (.slice A4 vl.kids.length c4):=by simpa using Ab r5 3 rfl
    first|(simp[Region.binds]at hpre;done)|simp[Region.binds]at hpre|clear hpre
   iterate 5
    ·exact fD
   ·have u1:U 1=.agg #[k.signs,k.base,k.name]:=de;rw[if_pos d9];refine wp_store_mid 67 _ _ rfl w 0 ([k.signs,k.base,k.name]:List Value).toArray rfl u1 r2 aJ bJ ?_;exact hK undef _ _ Ac Ac ⟨Ag _ (Am _) _ _ _ r1,ag r2 _ _ _,ag r3 _ _ _,ai r4 _ _ _ (.inl aF),ai r5 _ _ _ (.inl aF),r6.far (Cz _ _ _ W) aF,r7.grown (Cz _ _ _ W) (fun b hb e=>by injection e with e;have:w.heap.size+2<=b:=hb;omega),fun _=>a7 _ _ _ _ r2,fun h=>ai (r9 h) _ _ _ (.inl aF)⟩ rfl
   ·have u1:U 2=.agg #[.int .u8 (vl.what.toNat:Int),vl.text,(vl.tag:Int),.slice A4 vl.kids.length c4]:=de;rw[if_pos d9];refine wp_store_mid 75 _ _ rfl (w.heap.size+1) 0 (Sl (vl,.slice A4 vl.kids.length c4)).toArray rfl u1 r3 aJ (by simp[Sl,Value.oneCell']) ?_;exact hK undef _ _ Ac Ac ⟨Ag _ aF _ _ _ r1,ag r2 _ _ _,ag r3 _ _ _,ai r4 _ _ _ (.inl aF),ai r5 _ _ _ (.inl aF),r6.far (Cz _ _ _ W) aF,r7.grown (Cz _ _ _ W) (fun b hb e=>by injection e with e;have:w.heap.size+2<=b:=hb;omega),fun h=>ai (r8 h) _ _ _ (.inl aF),fun _=>a7 _ _ _ _ r3⟩ rfl
   ·exact fD
  rintro L U W hL hφ hR;have e4:U 4=pb:=hφ 4 aI;have e7:U 7=.bool o.isSome:=hφ 7 aI;simp only[e4,e7];clear hφ;obtain⟨r1,r2,r3,r4,r5,r6,r7,r8,r9⟩:=hR;have R1:=Aa r1;have R6:=Aa r6;have R7:=Aa r7;have R8:=Aa (r8 (hL 5 aI));have R9:=Aa (r9 (hL 6 aI));clear hL r1 r2 r3 r4 r5 r6 r7 r8 r9;go_wp2_with fail;refine aD (v:=.tuple #[pb,.agg ([k.signs,k.base,k.name]:List Value).toArray,.agg (Sl (vl,.slice A4 vl.kids.length c4)).toArray,.bool o.isSome]) ?_ rfl ?_
  ·exact Pv results57 _ _ w.heap.size (w.heap.size+1) _ _ _ _ _ _ rfl rfl rfl rfl R8.o R9.o underlying67 rfl aJ underlying75 rfl aJ
  refine⟨⟨_,_,_,_,vl,_,by rw[HV.o];rfl,R7.o.mono (fun c hc _=>by have:w.heap.size+2<=c:=hc;omega),fun y hy=>?_⟩,R1.o⟩;rw[HV.o]at hy;exact⟨Hx4.o y hy,_,k,xs,rfl,rfl,rfl,rfl,rfl,R6.o.low aF⟩
theorem Qaa(u:Value)(vs:List J0)(n:Int)(w:World)(h:Fi w u vs)(hn:vs.length<=1048577)(hl:∀x∈vs,x.1.length<=4000000/\x.2.length<=4000000)(hlo:-9223372036854775808<=n)(hhi:n<=9223372036854775807):
  Calls prog 61 #[.agg #[u],.int .i64 n] w (G6 vs n w):=by
 have Hv:=Aa h;have Hl:=Aa hl;obtain⟨A,c,rfl,hcap,hvm,hr⟩:=h;have Hr:=Aa hr;clear hl hr;go_enter func61,ntmps61;go_wp2_with fail;obtain⟨W1,hW1⟩:∃W1,W1=(w.alloc (.cells #[.slice A vs.length c] 31)).alloc (.cells #[a6,a6] 36):=⟨_,rfl⟩
 rw[<-hW1];have hz1:W1.heap.size=w.heap.size+2:=ei;have B1:=Aa (show Below w w W1 by rw[hW1];exact((Ar _ _).alloc (Am _) _).alloc aH _);have C1:=Aa (show W1.cell? (w,0)=some (.slice A vs.length c)by rw[hW1];simp[go_sem]);have T1:=Aa (show W1.there (w.heap.size+1) 0 2 by rw[hW1];have:=B9 (w.alloc (.cells #[.slice A vs.length c] 31)) [a6,a6] 36;simpa using this);clear hW1;refine(Qc7 _ vs _ (Hv.o.below B1.o) hn Hl.o).mono ?_;rintro e w1 ⟨rfl,hb1⟩;have hz2:=hb1.size;have C2:=Aa ((hb1.cell (p:=⟨w.heap.size,0,none⟩) (show w.heap.size<W1.heap.size by omega)).trans C1.o);have T2:=Aa (An T1.o aF hb1);have B2:=Aa (B1.o.trans (hb1.mono aF));clear hb1;have c2:=C2.o;cases hok:Ms vs with
 |false=>
  have HN:=Aa (Qdz (n:=n) hok);clear hok;go_wp2_with ((with_reducible refine Ad (op:=⟨none,.store 36 _ _,_,_,_,none⟩) rfl 36 _ _ rfl (w.heap.size+1) 0 [a6,a6] ?_ ?_ ?_ ?_ ?_ ?_);rfl;rfl;(exact T2.o);kernel_rfl;(simp[Value.oneCell']);intro w9 HS9)
  have HZ:=(by rw[HS9.o];exact a7 _ _ _ _ T2.o:w9.rangeAt (w.heap.size+1) 0 [a6,a6])
  refine aD (v:=.tuple #[.agg ([a6,a6]:List Value).toArray,.bool false]) (Aj results61 _ _ (w.heap.size+1) _ _ _ rfl rfl HZ underlying36 rfl aJ) rfl ?_;exact je
 |true=>
  have HOK:=Aa hok;clear hok;by_cases hin:1<=n/\n<=(vs.length:Int)
  ·obtain⟨k,rfl,hk⟩:∃k:Nat,n=(k:Int)+1/\k<vs.length:=⟨(n - 1).toNat,by omega,by omega⟩
   have HA:=Aa (Qg5 HOK.o hk);obtain⟨b,off,rfl,hbl,x0,x1⟩:=Fi.at_ (Hr.o.below B2.o) hk;have Hxv:=@Aa (Dq vs k=vs[k]) (Kf hk);generalize vs[k]=x at x0 x1 Hxv;have t1:decide ((k:Int)+1<1)=false:=aA aF;have t2:decide ((vs.length:Int)<(k:Int)+1)=false:=aA aF;have hcap2:(k:Int)<(c:Int):=aF;go_wp2_with ((with_reducible refine Ad (op:=⟨none,.store 36 _ _,_,_,_,none⟩) rfl 36 _ _ rfl (w.heap.size+1) 0 [x.1,x.2] ?_ ?_ ?_ ?_ ?_ ?_);rfl;rfl;(exact T2.o);kernel_rfl;(simp[Value.oneCell']);intro w9 HS9)
   have HZ:=(by rw[HS9.o];exact a7 _ _ _ _ T2.o:w9.rangeAt (w.heap.size+1) 0 [x.1,x.2])
   refine aD (v:=.tuple #[.agg ([x.1,x.2]:List Value).toArray,.bool true]) (Aj results61 _ _ (w.heap.size+1) _ _ _ rfl rfl HZ underlying36 rfl aJ) rfl ?_;exact jf
  have HN:=Aa (Qei hin);by_cases h1:n<1
  ·have t1:decide (n<1)=true:=aB h1;go_wp2_with ((with_reducible refine Ad (op:=⟨none,.store 36 _ _,_,_,_,none⟩) rfl 36 _ _ rfl (w.heap.size+1) 0 [a6,a6] ?_ ?_ ?_ ?_ ?_ ?_);rfl;rfl;(exact T2.o);kernel_rfl;(simp[Value.oneCell']);intro w9 HS9)
   have HZ:=(by rw[HS9.o];exact a7 _ _ _ _ T2.o:w9.rangeAt (w.heap.size+1) 0 [a6,a6])
   refine aD (v:=.tuple #[.agg ([a6,a6]:List Value).toArray,.bool false]) (Aj results61 _ _ (w.heap.size+1) _ _ _ rfl rfl HZ underlying36 rfl aJ) rfl ?_;exact je
  have t1:decide (n<1)=false:=aA h1;have h2:(vs.length:Int)<n:=aF;have t2:decide ((vs.length:Int)<n)=true:=aB h2;go_wp2_with ((with_reducible refine Ad (op:=⟨none,.store 36 _ _,_,_,_,none⟩) rfl 36 _ _ rfl (w.heap.size+1) 0 [a6,a6] ?_ ?_ ?_ ?_ ?_ ?_);rfl;rfl;(exact T2.o);kernel_rfl;(simp[Value.oneCell']);intro w9 HS9)
  have HZ:=(by rw[HS9.o];exact a7 _ _ _ _ T2.o:w9.rangeAt (w.heap.size+1) 0 [a6,a6])
  refine aD (v:=.tuple #[.agg ([a6,a6]:List Value).toArray,.bool false]) (Aj results61 _ _ (w.heap.size+1) _ _ _ rfl rfl HZ underlying36 rfl aJ) rfl ?_;exact je
end
end Go.Proofs.YtgfmljfjgohdcaaGreatDoor
