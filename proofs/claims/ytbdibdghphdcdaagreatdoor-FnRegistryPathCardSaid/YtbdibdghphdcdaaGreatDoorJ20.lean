/- Texts joined. Conditions: as each theorem names them. -/
import Derived.Deep.CutRange
import Derived.Deep.DeepCutAuto
import Derived.DeepKeys4
import Derived.Test.YtbdibdghphdcdaaGreatDoorJ19
import Derived.Test.YtbdibdghphdcdaaGreatDoorJ21
set_option maxRecDepth 100000
set_option maxHeartbeats 32000000
set_option linter.unusedVariables false
set_option linter.unusedSimpArgs false
namespace Go.Proofs.YtbdibdghphdcdaaGreatDoor
open Go.RowKit Go.Proofs.Tryz
section
attribute [local go_sem] Qo7 Qok Qoa Ql9 ByteArray.mk_append_mk
inductive Dw:Vl->Prop
 |fd {tx:List UInt8} {tg:Nat} {x:Vl} (h:Dw x):Dw (.mk 61 tx tg [x])
 |no {w:UInt8} {tx:List UInt8} {tg:Nat} {ks:List Vl} (hw:w≠61) (h:∀x∈ks,Dw x):Dw (.mk w tx tg ks)
theorem Jf.dw{S:List Ty}:∀{d:Nat} {k:Kd} {v:Vl},Jf S d k v->Dw v:=by
 intro d;induction d with
 |zero=>intro k v h;cases h
 |succ d ih=>
  intro k v h;cases h with
  |n=>exact .no aJ aK
  |t=>exact .no aJ aK
  |f=>exact .no aJ aK
  |lst hs hl h=>exact .no aJ fun x hx=>ih (h x hx)
  |non=>exact .no aJ aK
  |som hs h=>exact .no aJ fun x hx=>by rw[aq]at hx;subst hx;exact ih h
  |enm=>exact .no aJ aK
  |uni hs hb ht h5 hf h=>exact .no aJ fun x hx=>by rw[aq]at hx;subst hx;exact ih h
  |rcd hs hb ht h2 hf h hn hp=>
   refine .no aJ fun x hx=>?_;obtain⟨p,hp,rfl⟩:=ax.1 hx;exact .fd (ih (h p hp))
theorem Qby(x:Vl):∀l:List Vl,J7 (l++[x])=max (J7 l) (Nt x)
 |[]=>by simp[J7]
 |y::l=>by rw[av,J7,Qby x l,J7];omega
theorem Qjh(P:Nat->Prop){v:Vl}(hd:Dw v):∀(sl:Value) (w:World),Eh P w sl v.kids->Nt v<=100000 ->
  Calls prog 56 #[Er v sl] w fun e w'=>e=.returned (.int .i64 (Nt v:Int))/\Below w w w':=by
 induction hd with
 |@fd tx tg x hx ih=>
  intro sl w h hl;obtain⟨A,c,xs,rfl,hks,hlx,hr,hP,hk⟩:=h;obtain⟨⟨y,ys⟩,rfl⟩:∃a,xs=[a]:=by
   cases xs with
   |nil=>simp[Bi,Vl.kids]at hks
   |cons a l=>cases l with
    |nil=>exact⟨a,rfl⟩
    |cons b l=>simp[Bi,Vl.kids]at hks
  obtain rfl:x=y:=by simpa [Bi,Vl.kids]using hks
  have hdp:Nt (.mk 61 tx tg [x])=Nt x:=by simp[Nt,J7]
  rw[hdp]at hl ⊢;have hkx:=hk (x,ys) aK;obtain⟨A7,c7,e7⟩:=hkx.form;simp only at e7;subst e7;obtain⟨b,off,rfl,hb,d0,d1,d2,d3⟩:=Eh.at_ hr (show 0<1 by decide);simp only[List.getElem_cons_zero,Nat.zero_mul,Nat.add_zero]at d0 d1 d2 d3;have Hkx:=Aa hkx;have Ih:=Aa (fun W h=>ih (.slice A7 x.kids.length c7) W h hl);have hbn:¬(b=w.heap.size):=aH;generalize Nt x=n at *;unfold Er at Ih ⊢;clear hk hr hP hks hkx ih;simp only[Vl.what,Vl.text,Vl.tag,List.length_singleton];go_enter func56,ntmps56;go_wp2_with fail;refine(Ih.o _ (Hkx.o.after ((Ap _ _).alloc (An _) _))).mono ?_;rintro e w1 ⟨rfl,hb1⟩;have Hb1:=Aa (((Ap w.heap.size w).alloc (An _) _).trans (hb1.mono aK));clear hb1;go_wp2_with fail;exact lk
 |@no wh tx tg ks hw hks ih=>
  intro sl w h hl;have t61:((wh.toNat:Int) == 61)=false:=Aq (d:=61) hw;have hdp:Nt (.mk wh tx tg ks)=J7 ks+1:=by rw[Nt,if_neg hw]
  rw[hdp]at hl ⊢;simp only[Vl.kids]at h;obtain⟨A,c,xs,rfl,rfl,hlx,hr,hP,hk⟩:=h;have Hdp:=Aa hdp;have Hr:=Aa hr;have Hk:=Aa hk;have Hle:=Aa ((Yo (Bi xs) 100000).1 aH);have Ih:=Aa (fun x hx s W h=>ih x hx s W h (Hle.o x hx));clear hr hk hP ih hks hw;unfold Er;simp only[Vl.what,Vl.text,Vl.tag];have hxl:(Bi xs).length=xs.length:=by simp[Bi]
  have HF:=Aa (rfl:Bi xs=xs.map (·.1));go_enter func56,ntmps56;go_wp2_with fail;obtain⟨w1,hw1⟩:∃w1,w1=w.alloc (.cells #[.int .u8 (wh.toNat:Int),tx,(tg:Int),.slice A xs.length c] 44):=⟨_,rfl⟩
  rw[<-hw1];have Hb1:=Aa (show Below w w w1 by rw[hw1];exact(Ap _ _).alloc (An _) _);have hz1:w.heap.size<w1.heap.size:=eV;have Hr1:=Aa (Hr.o.below Hb1.o);have Hk1:=Aa (fun x hx=>(Hk.o x hx).after Hb1.o);clear hw1 Hr Hk;go_loopw [17,3] (fun i u wr=>∃m:Nat,i=.int .i64 m/\u=.int .i64 (J7 ((xs.take m).map (·.1)):Int)/\m<=xs.length/\Hid (J7 ((xs.take m).map (·.1))<=100000)/\Hid (Below w1 w1 wr)) (fun i _ _=>xs.length - (intOf i).toNat)
  case atStart=>exact⟨0,rfl,rfl,ag _,ag _,Ap _ _⟩
  case round=>
   obtain⟨m,rfl,rfl,hm,hdm,Hbr⟩:=hrel;have m1:(0:Int)<=(m:Int):=aH;by_cases hlt:m<xs.length
   ·have m2:(m:Int)<(xs.length:Int):=aH;obtain⟨b,off,rfl,hb,d0,d1,d2,d3⟩:=Eh.at_ (Hr1.o.below Hbr.o) hlt;have Hkx:=Aa ((Hk1.o _ (ae hlt)).after Hbr.o);have Hmx:=@Aa (xs[m].1∈Bi xs) (ap (ae hlt));have Hts:=Aa (Cn xs m hlt);have hsz:w1.heap.size<=wr.heap.size:=Hbr.o.size;have hbn:¬(b=wr.heap.size):=aH;generalize xs[m]=x at *;obtain⟨y,ys⟩:=x;obtain⟨A7,c7,e7⟩:=Hkx.o.form;simp only at e7 d0 d1 d2 d3 Hkx Hmx;subst e7;have hyl:=Hle.o y Hmx.o;have Hx:=Aa (fun W=>Ih.o y Hmx.o (.slice A7 y.kids.length c7) W);have Hsn:=Aa (show J7 ((xs.take (m+1)).map (·.1))=max (J7 ((xs.take m).map (·.1))) (Nt y)by rw[Hts.o,az];exact Qby y _);unfold Er at Hx;have hdm':=hdm.o;generalize J7 ((xs.take m).map (·.1))=q at *;generalize Nt y=n at *;go_wp2_with fail;refine(Hx.o _ (Hkx.o.after ((Ap _ _).alloc (An _) _))).mono ?_;rintro e w3 ⟨rfl,hb3⟩;have Hb3:=Aa (((Ap wr.heap.size wr).alloc (An _) _).trans (hb3.mono aK));clear hb3;go_wp2_with fail;go_roundw
    case rel=>exact⟨m+1,by go_num,by rw[Hsn.o];congr 1;omega,by omega,by rw[Hsn.o];show max q n<=100000;omega,Hbr.o.trans (Hb3.o.mono hsz)⟩
    case measure=>simp[intOf];omega
   ·obtain rfl:m=xs.length:=aH;have Hb6:=Aa (Hb1.o.trans (Hbr.o.mono aH));have HD:=Aa (show J7 ((xs.take xs.length).map (·.1))=J7 (Bi xs)by rw[List.take_length];rfl);have hd2:=hdm.o;generalize J7 ((xs.take xs.length).map (·.1))=q at *;go_wp2_with fail;go_ret;exact⟨Qm6 (by have:=HD.o;have:=Hdp.o;omega),Hb6.o⟩
theorem Qlz{st:UInt8}{f:Fd}(h:Tu st f):f.given.length<=14:=by
 by_cases hs:st=69
 ·rw[(h.2.2.2.1 hs).2];simp
 by_cases hg:f.given=[]
 ·rw[hg];simp
 have:=((h.2.2.2.2 hs).2 hg).2.2;unfold Ck at this;split at this
 ·split at this
  ·rename_i n hd;have:=Co.1 hd;rw[this.2];have:=Dk 5 n eH;omega
  cases this
 split at this
 ·simp only[aw,decide_eq_true_eq]at this;have h4:=this.2;unfold Dy at h4;simp only[aw,decide_eq_true_eq,List.length_dropLast,List.length_drop]at h4;omega
 split at this
 ·simp only[decide_eq_true_eq]at this;rw[this];simp
 cases this
theorem Qgf(w0:World)(b N:Nat)(p:Value)(XS:List PT)(hsc:Tr w0 p XS)(t:List UInt8)(k:Kd)(w:World)(hw:Below w0 w0 w)(hb:w0.heap.size<=b)(h:Jn w b p t false)(hl:t.length<=900)(hs:k.signs=[])(hbs:k.base=[64])(hnm:k.name.length<=100)
  (x:PT) (hxf:Fh XS k.name=some x) (q:Option (Vl × List UInt8)) (HO:∀W,Below w0 w0 W->Jn W b p t false->Calls prog 89 #[b,.pointer (some ⟨x.blk,0,none⟩)] W (Nc W b p t (N+1) q)):
  Calls prog 55 #[b,Et k] w (Nc w b p t (N+1) q):=by
 have HH:=Aa HO;obtain⟨pb,A,c,mb,rfl,hpb,hc0,hc1,_,hnd,_,_⟩:=hsc
 have HN:=Aa (fun W (h:Below w0 w0 W)=>show (Instr.lookup 118 (.map (some mb)) k.name false).run prog W=.ok (.pointer (some ⟨x.blk,0,none⟩)) W from by
  have:=Gj (D5.below hnd h) k.name aH;rw[hxf]at this;exact this)
 have HM:=Aa (fun W (h:Below w0 w0 W)=>(h.cell (p:=⟨pb,1,none⟩) hpb).trans hc1);have HS:=Aa h;have HW:=Aa hw;have hb0:=h.1;have hbn:¬(b=w.heap.size):=aH;have hbn2:¬(b=w.heap.size+1):=aH;have c2:=h.2.2.2.2;obtain⟨sg,bs,nm⟩:=k;simp only at hs hbs HN;subst hs hbs;unfold Et;simp only;clear h hw hxf HO hc0 hc1 hnd;go_enter func55,ntmps55;go_wp2_with fail;refine(Kj _ _ _).mono ?_;rintro e w2 ⟨rfl,hb2⟩;have F2:=Aa ((Ni.init (k:=⟨[],[64],nm⟩) HS.o).post hb2);clear hb2 c2;have k0:=Ab F2.o.2.1 0 rfl;have k1:=Ab F2.o.2.1 1 rfl;have k2:=Ab F2.o.2.1 2 rfl;simp only[am]at k0 k1 k2;go_wp2_with fail;have hlz:=F2.o.2.2.2;have SP:=Aa F2.o.1.1.2.2.1;have hbz:=F2.o.1.1.1;refine Bq [52,53,54,55,56,57,58,59,60,61,62,63,999] aL aL aL (fun u=>by dsimp only[Bv,Bs,List.set,am,Nat.reduceAdd])
  (fun ix v W=>match ix with|0=>v=b|1=>v=b|2=>v=b|3=>v=b|4=>v=pb|5=>v=pb|6=>v=(pb,1)|7=>v=.map (some mb)|8=>v=(w,2)|9=>v=nm|10=>v=.pointer (some ⟨x.blk,0,none⟩)|11=>∃x s,v=Er x s|_=>True)
  (fun L U W=>(L 11=false->Below w2 w2 W)/\(L 11=true->L 12=false->∃v sl t',U 11=Er v sl/\Eh (fun c=>w.heap.size+2<=c) W sl v.kids/\Ni w b pb ⟨[],[64],nm⟩ t' q.isNone W/\(∀x,q=some x->v=x.1/\t'=x.2)/\Bd v/\t'.length<=t.length/\(Bc v).length+t'.length<=t.length+8*(N+1)) /\
  (L 12=true->∃v sl,Nc w b pb t (N+1) q (.returned (.agg (J8 v sl).toArray)) W/\W.rangeAt (w.heap.size+1) 0 (J8 v sl))) (fun _ _=>True) (fun _ _ _ _ _ h=>h) (⟨fun _=>(Ap _ _).drew,fun h=>Bool.noConfusion h,fun h=>Bool.noConfusion h⟩) ?_ ?_
 ·repeat (first|exact Ak.nil|(refine Ak.cons ?_ ?_;rotate_left))
  all_goals
   rintro L U W hL hpre hR hun hdep K hK;have HR:=Aa hR;obtain⟨R1,R2,R3⟩:=HR.o;have Hdep:=Aa hdep;clear hun hdep hR;first|(simp[Region.binds]at hpre;done)|simp[Region.binds]at hpre|clear hpre
  iterate 4
   ·exact ip
  ·have h5:L 5=false:=Az Hdep.o 5 4 rfl hL;have h6:L 6=false:=Az Hdep.o 6 5 rfl h5;have h7:L 7=false:=Az Hdep.o 7 6 rfl h6;have h10:L 10=false:=Az Hdep.o 10 7 rfl h7;have h11:L 11=false:=Az Hdep.o 11 10 rfl h10;have hB:=R1 h11;have hW2:=(F2.o.post hB).1.env HW.o hb;have p0:W.cell? (b,0)=pb:=(hB.cell (p:=⟨b,0,none⟩) hbz).trans SP.o;exact lq
  iterate 2
   ·exact ip
  ·have h10:L 10=false:=Az Hdep.o 10 7 rfl hL;have h11:L 11=false:=Az Hdep.o 11 10 rfl h10;have hB:=R1 h11;have hW2:=(F2.o.post hB).1.env HW.o hb;have m1:=HM.o W hW2;exact lq
  ·exact ip
  ·have h10:L 10=false:=Az Hdep.o 10 9 rfl hL;have h11:L 11=false:=Az Hdep.o 11 10 rfl h10;have hB:=R1 h11;have hW2:=(F2.o.post hB).1.env HW.o hb;have n2:W.cell? (w,2)=nm:=(hB.cell (p:=⟨w.heap.size,2,none⟩) (show w.heap.size<_ by omega)).trans k2;exact lq
  ·have h11:L 11=false:=Az Hdep.o 11 10 rfl hL;have hB:=R1 h11;have hW2:=(F2.o.post hB).1.env HW.o hb;have hlk:=HN.o W hW2;exact lq
  ·have h12:L 12=false:=Az Hdep.o 12 11 rfl hL;have hB:=R1 hL;have F3:=F2.o.post hB;go_simp;refine(HH.o W (F3.1.env HW.o hb) F3.1.1).mono ?_;rintro e w5 ⟨v,sl,t',rfl,hk5,hs5,hx5,hB5,hl5,hn5⟩;exact hK (Er v sl) _ _ ⟨v,sl,rfl⟩ Ac ⟨fun h=>by simp at h,fun _ _=>⟨v,sl,t',rfl,hk5.mono fun c hc _=>(by have:=hB.size;omega),F3.step hb0 hs5,hx5,hB5,hl5,hn5⟩,fun h=>absurd (h12.symm.trans aQ) aJ⟩ aI
  ·have l11:L 11=true:=hpre.1.1;obtain⟨v,sl,t',u11,hk5,F5,hx5,hB5,hl5,hn5⟩:=R2 l11 hL;obtain⟨A7,c7,rfl⟩:=hk5.form;have Z:=Ni.fin (w9:=W.setCells (w.heap.size+1) 0 (J8 v (.slice A7 v.kids.length c7))) (t:=t) (N:=N+1) (v:=v) (sl:=.slice A7 v.kids.length c7) (r:=q) F5 hb0 rfl hk5 rfl hx5 hB5 hl5 hn5;rw[if_pos cx];refine wp_store_mid 44 _ _ rfl (w.heap.size+1) 0 (J8 v (.slice A7 v.kids.length c7)).toArray rfl u11 F5.2.2.1 aL (by simp[J8,Value.oneCell']) ?_;exact hK undef _ _ Ac Ac ⟨fun h=>absurd (l11.symm.trans aQ) aJ,fun _ h=>by simp at h,fun _=>⟨v,_,Z.1,Z.2⟩⟩ rfl
 rintro L U W hL hφ hR;clear hφ;obtain⟨_,_,h3⟩:=hR;obtain⟨v,sl,Z1,Z2⟩:=h3 (hL 12 aJ);clear hL h3;go_wp2_with fail;exact aF (v:=.agg (J8 v sl).toArray) (Bj results55 _ _ (w.heap.size+1) _ _ rfl Z2 underlying44 rfl aL) rfl Z1
theorem Qgy(w0:World)(b N:Nat)(p:Value)(S:List Ty)(t:List UInt8)(k:Kd)(w:World)(hw:Below w0 w0 w)(hb:w0.heap.size<=b)(h:Jn w b p t false)(hl:t.length<=900)(hN:t.length<=N)(hN2:N<=2000)(sg:List UInt8)(hs:k.signs=91::sg)(hsl:sg.length<=100)
  (H:IvC w0 b p S N k.part) (HG:∀s v r,Ar S 1000 N k.part s=some (v,r)->s=Bc v++r) (q:Option (Vl × List UInt8)) (hq:q=Yl (Ar S 1000 N k.part) 1000 t):
  Calls prog 55 #[b,Et k] w (Nc w b p t (N+1) q):=by
 have HL:=Aa (fun W (h1:Below w0 w0 W) (h2:Jn W b p t false)=>Qjm w0 b N p S t k.part W h1 hb h2 hl hN hN2 H HG q hq);have HP:=Aa (fun W=>Vy k W 91 sg hs aH);have HS:=Aa h;have HW:=Aa hw;have hb0:=h.1;have hbn:¬(b=w.heap.size):=aH;have hbn2:¬(b=w.heap.size+1):=aH;have c2:=h.2.2.2.2;obtain⟨sg',bs,nm⟩:=k;simp only at hs;subst hs;generalize hkp:(⟨91::sg,bs,nm⟩:Kd).part=kp at *;unfold Et at HP ⊢ HL;simp only at HP ⊢;clear h hq hw H HG hkp;go_enter func55,ntmps55;go_wp2_with fail;refine(Nn 91 sg aH _ _ _).mono ?_;rintro e w2 ⟨rfl,hb2⟩;have F2:=Aa ((Ni.init (k:=⟨91::sg,bs,nm⟩) HS.o).post hb2);clear hb2 c2;have k0:=Ab F2.o.2.1 0 rfl;have k1:=Ab F2.o.2.1 1 rfl;have k2:=Ab F2.o.2.1 2 rfl;simp only[am]at k0 k1 k2;go_wp2_with fail;refine(HP.o _).mono ?_;rintro e w3 ⟨rfl,hb3⟩;have F3:=Aa (F2.o.post hb3);clear hb3 k0 k1 k2;go_wp2_with fail;refine(HL.o _ (F3.o.1.env HW.o hb) F3.o.1.1).mono ?_;rintro e w4 ⟨v,sl,t',rfl,hk4,hs4,hx4,hB4,hl4,hn4⟩;obtain⟨A7,c7,rfl⟩:=hk4.form;have F4:=Aa (F3.o.step hb0 hs4);have hz3:=F3.o.2.2.2;have Hk4:=Aa hk4;have Hx4:=Aa hx4;have HB4:=Aa hB4;clear hs4 hk4 hx4 hB4;unfold Er;go_wp2_with ((with_reducible refine Ad (op:=⟨none,.store 44 _ _,_,_,_,none⟩) rfl 44 _ _ rfl (w.heap.size+1) 0 (J8 v (.slice A7 v.kids.length c7)) ?_ ?_ ?_ ?_ ?_ ?_);rfl;rfl;(exact F4.o.2.2.1);kernel_rfl;(simp[J8,Value.oneCell']);intro w9 HS9)
 have Z:=Ni.fin (t:=t) (N:=N+1) (v:=v) (sl:=.slice A7 v.kids.length c7) (r:=q) F4.o hb0 HS9.o (Hk4.o.mono fun c hc _=>by omega) rfl Hx4.o HB4.o hl4 hn4;exact aF (v:=.agg (J8 v (.slice A7 v.kids.length c7)).toArray) (Bj results55 _ _ (w.heap.size+1) _ _ rfl Z.2 underlying44 rfl aL) rfl Z.1
theorem Qf5(w0:World)(b:Nat)(p:Value)(XS:List PT)(hsc:Tr w0 p XS)(hS:Gy (Ag XS))(hb:w0.heap.size<=b):∀(N:Nat),N<=2000->∀(k:Kd),Cq k->Cc (Ag XS) k->IvC w0 b p (Ag XS) N k:=by
 intro N;induction N with
 |zero=>
  intro _ k hk hr t bad w hw h hl hN;cases bad with
  |true=>exact Qag b 0 p t k w h
  |false=>exact absurd (hN rfl) (Nat.not_lt_zero _)
 |succ N ih=>
  intro hN2 k hk hr t bad w hw h hl hN;cases bad with
  |true=>exact Qag b (N+1) p t k w h
  |false=>
   have hN:=Nat.le_of_lt_succ (hN rfl);rw[if_neg aJ];have hTy:∀t∈Ag XS,Ft t:=hS.1.1;unfold Ar;cases hs:k.signs with
   |cons c sg=>
    simp only;have hsl:sg.length<=100:=by have:=hk.2.2;unfold Be at this;rw[hs]at this;simp at this;omega
    have hp:=(Kc hk).1;have hrp:Cc (Ag XS) k.part:=hr;rcases Ro hk hs with rfl|rfl
    ·rw[if_pos rfl];exact Qgy w0 b N p (Ag XS) t k w hw hb h hl hN aH sg hs hsl (ih aH k.part hp hrp) (fun s v r h=>(G9 hTy 1000 N k.part s v r hp h).2) _ rfl
    rw[if_neg aJ];exact Qgv w0 b N p (Ag XS) t k w hw hb h hl hN aH sg hs hsl (ih aH k.part hp hrp) _ rfl
   |nil=>
    simp only;by_cases h1:k.base=[110]
    ·rw[if_pos h1];exact Qka b N p t k w h hl hs h1 _ rfl
    rw[if_neg h1];by_cases h2:k.base=[116]
    ·rw[if_pos h2];exact Ql7 b N p t k w h hl hs h2 _ rfl
    rw[if_neg h2];by_cases h3:k.base=[102]
    ·rw[if_pos h3];exact Qlp b N p t k w h hl hs h3 _ rfl
    rw[if_neg h3];have h64:k.base=[64]:=by
     rcases hk.2.1 with h|⟨h|h|h,_⟩
     ·exact h.1
     ·exact absurd h h1
     ·exact absurd h h2
     exact absurd h h3
    have hnm:k.name.length<=100:=by
     rcases hk.2.1 with h|⟨_,h⟩
     ·have:=(Dz.1 h.2).2.1;omega
     rw[h];simp
    have hr2:=hr h64;rw[Jp]at hr2 ⊢;cases hx:Fh XS k.name with
    |none=>rw[hx]at hr2;cases hr2
    |some x=>
     simp only[Option.map_some];have hxm:=(Gp hx).1;have hxt:=(Gp hx).2.2;have hxi:So w0 x:=by obtain⟨_,_,_,_,_,_,_,_,_,_,h6,_⟩:=hsc;exact h6 x hxm
     have hto:=hTy x.ty (ap hxm);refine Qgf w0 b N p XS hsc t k w hw hb h hl hs h64 hnm x hx _ fun W hW hSc=>?_;have htg:∀f∈x.ty.fields,f.tag<=200:=fun f hf=>(hto.2.2.1.1 f hf).2.1;by_cases h9:x.ty.sort=69
     ·exact Qk7 w0 b N p (Ag XS) x hxi h9 t W hW hb hSc hl _ rfl
     have hfk:∀f∈x.ty.fields,Cq f.kind/\Cc (Ag XS) f.kind/\f.given.length<=1000:=fun f hf=>
      ⟨(Nl hTy hxt h9 hf).1,hS.2.1 x.ty (Cp hxt).1 h9 f hf,by have:=Qlz (hto.2.2.1.1 f hf);omega⟩
     have HF:∀f∈x.ty.fields,IvC w0 b p (Ag XS) N f.kind:=fun f hf=>ih aH f.kind (hfk f hf).1 (hfk f hf).2.1;by_cases h5:x.ty.sort=85
     ·exact Qk6 w0 b N p (Ag XS) x hxi h5 t W hW hb hSc hl hN aH htg HF _ rfl
     have h82:x.ty.sort=82:=by
      rcases hto.1 with h|h|h
      ·exact h
      ·exact absurd h h5
      exact absurd h h9
     exact Qkx w0 b N p XS hsc hS x hxi h82 t W hW hb hSc hl hN aH htg hfk HF (fun f hf s v r h=>(G9 hTy 1000 N f.kind s v r (hfk f hf).1 h).2) _ rfl
def S9(o:Option Vl)(w:World)(e:Ending)(w':World):Prop:=
 (∃v sl,e=.returned (.tuple #[Er v sl,.bool o.isSome])/\Eh (fun b=>w.heap.size<=b) w' sl v.kids/\∀x,o=some x->v=x)/\Below w w w'
theorem S9.no{o:Option Vl}{w w':World}{e:Ending}(ho:o=none)(he:e=.returned (.tuple #[Er Fm (.slice none 0 0),.bool false]))(hb:Below w w w'):S9 o w e w':=by
 subst ho;exact⟨⟨Fm,_,he,Eh.nil _ _,by simp⟩,hb⟩
theorem Qbj(p:Value)(XS:List PT)(hS:Gy (Ag XS))(k:Kd)(hk:Cq k)(hr:Cc (Ag XS) k)(s:List UInt8)(w:World)(hsc:Tr w p XS)(hs:s.length<=4000000):
  Calls prog 30 #[p,Et k,s] w (S9 (Gd (Ag XS) k s) w):=by
 have hTy:∀t∈Ag XS,Ft t:=hS.1.1;by_cases hl:400<s.length
 ·have HQ:=Aa (show Gd (Ag XS) k s=none by unfold Gd;rw[if_pos hl]);have t1:decide ((400:Int)<(s.length:Int))=true:=aD aH;have TH:=Bu (w.alloc (.cells #[k.signs,k.base,k.name] 50)) [.int .u8 0,a6,.int .i64 0,.slice none 0 0] 44;simp at TH;have BL:Below w w ((w.alloc (.cells #[k.signs,k.base,k.name] 50)).alloc (.cells #[.int .u8 0,a6,.int .i64 0,.slice none 0 0] 44)):=((Ap _ _).alloc (An _) _).alloc aK _;unfold Et;go_enter func30,ntmps30;go_wp2_with ((with_reducible refine Ad (op:=⟨none,.store 44 _ _,_,_,_,none⟩) rfl 44 _ _ rfl (w.heap.size+1) 0 [.int .u8 0,a6,.int .i64 0,.slice none 0 0] ?_ ?_ ?_ ?_ ?_ ?_);rfl;rfl;(exact TH);kernel_rfl;(simp[J8,Value.oneCell']);intro w9 HS9)
  have HZ:=(by rw[HS9.o];exact aa _ _ _ _ (TH):w9.rangeAt (w.heap.size+1) 0 (J8 Fm (.slice none 0 0)))
  refine aF (v:=.tuple #[.agg (J8 Fm (.slice none 0 0)).toArray,.bool false]) (Am results30 _ _ (w.heap.size+1) _ _ _ rfl rfl HZ underlying44 rfl aL) rfl ?_;exact S9.no HQ.o rfl (by rw[HS9.o];exact Ai _ aH _ _ _ BL)
 have HQ0:=Aa (Qi3 hTy hk (by omega:s.length<=400) 1000 500 aH aH);have t1:decide ((400:Int)<(s.length:Int))=false:=aC aH;have HG:=Aa (fun v r=>G9 hTy 1000 500 k s v r hk);have HV:=Aa (fun w0 b (h0:Tr w0 p XS) hb W (hW:Below w0 w0 W) (h2:Jn W b p s false)=>Qf5 w0 b p XS h0 hS hb 500 aH k hk hr s false W hW h2 aH (fun _=>by omega));simp only[ao,if_false]at HV;generalize Gd (Ag XS) k s=q at *;generalize hrd:Ar (Ag XS) 1000 500 k s=rd at *;have Hsc:=Aa hsc;obtain⟨pb,_,_,_,rfl,_⟩:=hsc;unfold Et at HV ⊢;clear hrd hS hk hr hTy;go_enter func30,ntmps30;go_wp2_with fail;obtain⟨W1,hW1⟩:∃W1,W1=(w.alloc (.cells #[k.signs,k.base,k.name] 50)).alloc (.cells #[.int .u8 0,a6,.int .i64 0,.slice none 0 0] 44):=⟨_,rfl⟩
 rw[<-hW1];have hz1:W1.heap.size=w.heap.size+2:=cm;have B1:=Aa (show Below w w W1 by rw[hW1];exact((Ap _ _).alloc (An _) _).alloc aK _);have T1:=Aa (show W1.there (w.heap.size+1) 0 4 by rw[hW1];have:=Bu (w.alloc (.cells #[k.signs,k.base,k.name] 50)) [.int .u8 0,a6,.int .i64 0,.slice none 0 0] 44;simpa using this);clear hW1;obtain⟨W2,hW2⟩:∃W2,W2=W1.alloc (.cells #[pb,s,.bool false] 111):=⟨_,rfl⟩
 have hb2:Below W1 W1 W2:=by rw[hW2];exact(Ap _ _).alloc (An _) _
 have S2:=@Aa (Jn W2 W1.heap.size pb s false) (by rw[hW2];exact⟨by simp,Rj.new _ _ _,by simp,by simp,by simp⟩);rw[hz1]at S2;rw[<-hW2];refine(HV.o W1 (w.heap.size+1+1) (Hsc.o.below B1.o) aH W2 hb2 S2.o).mono ?_;rintro e w3 ⟨v,sl,t',rfl,hk3,hs3,hx3,hB3,hl3,hn3⟩;obtain⟨A7,c7,rfl⟩:=hk3.form;have hz2:W1.heap.size<W2.heap.size:=gy;have T3:=Aa (Ey (Aj T1.o aH hb2) hs3.2 aH aK);have B3:=@Aa (Below w w w3) ((B1.o.trans (hb2.mono aH)).grown hs3.2 aH (fun k e=>by injection e with e;omega));have S3:=Aa hs3.1;have hz3:W2.heap.size<=w3.heap.size:=hs3.2.size;have Hk3:=Aa hk3;have Hx3:=Aa hx3;have T4:=Aa (fun o=>Aj T3.o aH ((Ap w3.heap.size w3).alloc (An _) o));have B4:=Aa (fun o=>B3.o.alloc B3.o.size o);clear hs3 hk3 hx3 HV hW2 hb2 T1 B1 hB3;unfold Er;have c1:=S3.o.2.2.2.1;have c2:=S3.o.2.2.2.2;have hbw:=S3.o.1;have hbn:¬(w.heap.size+1+1=w3.heap.size):=aH;cases rd with
 |none=>
  have HQ:=@Aa (q=none) HQ0.o;simp only[Option.isNone_none]at c2;go_wp2_with ((with_reducible refine Ad (op:=⟨none,.store 44 _ _,_,_,_,none⟩) rfl 44 _ _ rfl (w.heap.size+1) 0 [.int .u8 0,a6,.int .i64 0,.slice none 0 0] ?_ ?_ ?_ ?_ ?_ ?_);rfl;rfl;(exact T4.o _);kernel_rfl;(simp[J8,Value.oneCell']);intro w9 HS9)
  have HZ:=(by rw[HS9.o];exact aa _ _ _ _ (T4.o _):w9.rangeAt (w.heap.size+1) 0 (J8 Fm (.slice none 0 0)))
  refine aF (v:=.tuple #[.agg (J8 Fm (.slice none 0 0)).toArray,.bool false]) (Am results30 _ _ (w.heap.size+1) _ _ _ rfl rfl HZ underlying44 rfl aL) rfl ?_;exact S9.no HQ.o rfl fX
 |some y=>
  obtain⟨v0,r⟩:=y;obtain⟨rfl,rfl⟩:=Hx3.o _ rfl;have hv:=(HG.o v t' rfl).1;simp only[Option.isNone_some]at c2;have hd5:Nt v<=500:=(G8 _ _ _ _ hv 500).1 hv;have HD:=Aa (fun W (h:Below w3 w3 W)=>Qjh _ hv.dw (.slice A7 v.kids.length c7) W (Hk3.o.after h) aH);unfold Er at HD;cases ht:t' with
  |cons c u=>
   rw[ht]at HQ0 c1;have HQ:=@Aa (q=none) HQ0.o;clear ht;go_wp2_with ((with_reducible refine Ad (op:=⟨none,.store 44 _ _,_,_,_,none⟩) rfl 44 _ _ rfl (w.heap.size+1) 0 [.int .u8 0,a6,.int .i64 0,.slice none 0 0] ?_ ?_ ?_ ?_ ?_ ?_);rfl;rfl;(exact T4.o _);kernel_rfl;(simp[J8,Value.oneCell']);intro w9 HS9)
   have HZ:=(by rw[HS9.o];exact aa _ _ _ _ (T4.o _):w9.rangeAt (w.heap.size+1) 0 (J8 Fm (.slice none 0 0)))
   refine aF (v:=.tuple #[.agg (J8 Fm (.slice none 0 0)).toArray,.bool false]) (Am results30 _ _ (w.heap.size+1) _ _ _ rfl rfl HZ underlying44 rfl aL) rfl ?_;exact S9.no HQ.o rfl fX
  |nil=>
   rw[ht]at HQ0 c1;have HQ1:=@Aa (q=if Nt v<=12 then some v else none) HQ0.o;clear ht hv;go_wp2_with fail;refine(HD.o _ ((Ap _ _).alloc (An _) _)).mono ?_;rintro e w5 ⟨rfl,hb5⟩;have hb5':Below w3 w3 w5:=((Ap w3.heap.size w3).alloc (An _) _).trans (hb5.mono aK);have T5:=Aa (Aj T3.o aH hb5');have B5:=Aa (B3.o.trans (hb5'.mono B3.o.size));have X5:=Aa (Ah (Bk w3 (J8 v (.slice A7 v.kids.length c7)) 44) aK hb5);have hz5:=hb5'.size;have d0:=Ab X5.o 0 rfl;have d1:=Ab X5.o 1 rfl;have d2:=Ab X5.o 2 rfl;have d3:=Ab X5.o 3 rfl;simp only[am]at d0 d1 d2 d3;have Hk5:=Aa (Hk3.o.after hb5');clear hb5 hb5';by_cases h12:Nt v<=12
   ·have t2:decide ((12:Int)<(Nt v:Int))=false:=aC aH;have HQ:=Aa (show q=some v by rw[HQ1.o,if_pos h12]);clear HQ1 HQ0;generalize Nt v=n at *;go_wp2_with ((with_reducible refine Ad (op:=⟨none,.store 44 _ _,_,_,_,none⟩) rfl 44 _ _ rfl (w.heap.size+1) 0 (J8 v (.slice A7 v.kids.length c7)) ?_ ?_ ?_ ?_ ?_ ?_);rfl;rfl;(exact T5.o);kernel_rfl;(simp[J8,Value.oneCell']);intro w9 HS9)
    have HZ:w9.rangeAt (w.heap.size+1) 0 (J8 v (.slice A7 v.kids.length c7)):=by rw[HS9.o];exact aa _ _ _ _ T5.o
    refine aF (v:=.tuple #[.agg (J8 v (.slice A7 v.kids.length c7)).toArray,.bool true]) (Am results30 _ _ (w.heap.size+1) _ _ _ rfl rfl HZ underlying44 rfl aL) rfl ?_;rw[HQ.o,HS9.o];exact⟨⟨v,_,rfl,(Hk5.o.set (B:=w.heap.size+1) aH _).mono (fun c hc _=>by omega),by simp⟩,Ai _ aH _ _ _ B5.o⟩
   have t2:decide ((12:Int)<(Nt v:Int))=true:=aD aH;have HQ:=Aa (show q=none by rw[HQ1.o,if_neg h12]);clear HQ1 HQ0;generalize Nt v=n at *;go_wp2_with ((with_reducible refine Ad (op:=⟨none,.store 44 _ _,_,_,_,none⟩) rfl 44 _ _ rfl (w.heap.size+1) 0 [.int .u8 0,a6,.int .i64 0,.slice none 0 0] ?_ ?_ ?_ ?_ ?_ ?_);rfl;rfl;(exact T5.o);kernel_rfl;(simp[J8,Value.oneCell']);intro w9 HS9)
   have HZ:=(by rw[HS9.o];exact aa _ _ _ _ (T5.o):w9.rangeAt (w.heap.size+1) 0 (J8 Fm (.slice none 0 0)))
   refine aF (v:=.tuple #[.agg (J8 Fm (.slice none 0 0)).toArray,.bool false]) (Am results30 _ _ (w.heap.size+1) _ _ _ rfl rfl HZ underlying44 rfl aL) rfl ?_;exact S9.no HQ.o rfl (by rw[HS9.o];exact Ai _ aH _ _ _ B5.o)
section
variable {P:Program}
theorem S1{fn:Func}{r p p2 q:Tmp}{ty ty2:TypeId}(h:fn.results=#[.tmp r,.cell p ty,.cell p2 ty2,.tmp q])(tmps:Array Value)(w:World)(b b2:Nat)(cs cs2:List Value)(d d2:TypeDesc)(y x:Value)
  (hr:tmps.getD r undef=y) (hp:tmps.getD p undef=b) (hp2:tmps.getD p2 undef=b2) (hq:tmps.getD q undef=x) (hc:w.rangeAt b 0 cs) (hc2:w.rangeAt b2 0 cs2)
  (hu:P.underlying ty=some d) (hd:d.isRow=true) (hi:(P.info? ty).map (·.size)=some cs.length) (hu2:P.underlying ty2=some d2) (hd2:d2.isRow=true) (hi2:(P.info? ty2).map (·.size)=some cs2.length):
  (results fn tmps).run P w=.ok (.tuple #[y,.agg cs.toArray,.agg cs2.toArray,x]) w:=by
 have hp':tmps[p]?.getD undef=b:=eD;have hp2':tmps[p2]?.getD undef=b2:=by simpa using hp2
 have hq':tmps[q]?.getD undef=x:=fk;have hr':tmps[r]?.getD undef=y:=dJ;simp[results,h,hp',hp2',hq',hr',asAddr,run_loadVar_mid w b 0 ty cs d hc hu hd hi,run_loadVar_mid w b2 0 ty2 cs2 d2 hc2 hu2 hd2 hi2]
end
theorem Qq.low{lo lo':Nat}{w:World}{p:Value}{xs:List PT}(h:Qq lo w p xs)(hl:lo'<=lo):Qq lo' w p xs:=by
 obtain⟨b,A,c,mb,e,h0,h1,h2,h3,h4,h5,h6,l1,l2,l3,l4⟩:=h;exact⟨b,A,c,mb,e,h0,h1,h2,h3,h4,h5,h6,by omega,by omega,fun g o hn e=>by have:=l3 g o hn e;omega,fun x hx=>⟨by have:=(l4 x hx).1;omega,fun k hn hk=>by have:=(l4 x hx).2 k hn hk;omega⟩⟩
def Qco(o:Option (List Ty × Kd))(x:List UInt8)(w:World)(e:Ending)(w':World):Prop:=
 (∃p k1 k2 k3 v sl,e=.returned (.tuple #[.pointer p,.agg #[.string k1,.string k2,.string k3],Er v sl,.bool (No o x).isSome])/\Eh (fun c=>w.heap.size<=c) w' sl v.kids /\
  ∀y,No o x=some y->v=y/\∃S k xs,o=some (S,k)/\Ag xs=S/\k1=⟨k.signs.toArray⟩/\k2=⟨k.base.toArray⟩/\k3=⟨k.name.toArray⟩/\Qq w.heap.size w' (.pointer p) xs)/\Below w w w'
theorem Qco.no{o:Option (List Ty × Kd)}{x:List UInt8}{w w':World}{e:Ending}(ho:No o x=none){p:Option Addr}{k1 k2 k3:ByteArray}{v:Vl}{sl:Value}(he:e=.returned (.tuple #[.pointer p,.agg #[.string k1,.string k2,.string k3],Er v sl,.bool false]))(hs:Eh (fun c=>w.heap.size<=c) w' sl v.kids)(hb:Below w w w'):Qco o x w e w':=by
 refine⟨⟨p,k1,k2,k3,v,sl,by rw[ho];exact he,hs,fun y hy=>?_⟩,hb⟩;rw[ho]at hy;cases hy
theorem Qgh(s d x:List UInt8)(w:World)(hs:s.length<=4000000)(hd:d.length<=4000000)(hx:x.length<=4000000):
  Calls prog 19 #[s,d,x] w (Qco (At s d) x w):=by
 have Hbo:=Aa (fun W=>Sl s d W hs hd);have HGo:=Aa (fun S k (h:At s d=some (S,k))=>Cs h);generalize At s d=o at *;go_enter func19,ntmps19;go_wp2_with fail;obtain⟨W1,hW1⟩:∃W1,W1=(w.alloc (.cells #[a6,a6,a6] 50)).alloc (.cells #[.int .u8 0,a6,.int .i64 0,.slice none 0 0] 44):=⟨_,rfl⟩
 rw[<-hW1];have hz1:W1.heap.size=w.heap.size+2:=cm;have B1:=Aa (show Below w w W1 by rw[hW1];exact((Ap _ _).alloc (An _) _).alloc aK _);have TK1:=Aa (show W1.there w 0 3 by rw[hW1];exact ar (Bu w [a6,a6,a6] 50) _);have TV1:=Aa (show W1.there (w.heap.size+1) 0 4 by rw[hW1];have:=Bu (w.alloc (.cells #[a6,a6,a6] 50)) [.int .u8 0,a6,.int .i64 0,.slice none 0 0] 44;simpa using this);clear hW1;refine(Hbo.o W1).mono ?_;rintro e W2 ⟨hcase,hb2⟩;have hz2:=hb2.size;have TK2:=Aa (Aj TK1.o aH hb2);have TV2:=Aa (Aj TV1.o aH hb2);have B2:=Aa (B1.o.trans (hb2.mono aH));clear hb2;cases o with
 |none=>
  obtain⟨p,a,b,c,rfl⟩:=hcase;obtain⟨W3,hW3⟩:∃W3,W3=W2.alloc (.cells #[.string a,.string b,.string c] 50):=⟨_,rfl⟩
  have hb3:Below W2 W2 W3:=dg;have TK3:=Aa (Aj TK2.o aH hb3);have TV3:=Aa (Aj TV2.o aH hb3);have B3:=Aa (B2.o.trans (hb3.mono B2.o.size));have HW3:=Aa hW3;clear hb3 hW3;go_wp2_with (first|((with_reducible refine Ad (op:=⟨none,.store 50 _ _,_,_,_,none⟩) rfl 50 _ _ rfl w 0 [a6,a6,a6] ?_ ?_ ?_ ?_ ?_ ?_);rfl;rfl;(rw[<-HW3.o];exact TK3.o);kernel_rfl;(simp[Value.oneCell']);intro w8 HS8)|((with_reducible refine Ad (op:=⟨none,.store 44 _ _,_,_,_,none⟩) rfl 44 _ _ rfl (w.heap.size+1) 0 [.int .u8 0,a6,.int .i64 0,.slice none 0 0] ?_ ?_ ?_ ?_ ?_ ?_);rfl;rfl;(rw[HS8.o,<-HW3.o];exact ai TV3.o _ _ _);kernel_rfl;(simp[Value.oneCell']);intro w9 HS9))
  rw[<-HW3.o]at HS8;have TV8:=Aa (show w8.there (w.heap.size+1) 0 4 by rw[HS8.o];exact ai TV3.o _ _ _);have RK8:=Aa (show w8.rangeAt w 0 [a6,a6,a6]by rw[HS8.o];exact aa _ _ _ _ TK3.o);have B8:=Aa (show Below w w w8 by rw[HS8.o];exact Ai _ (An _) _ _ _ B3.o);have RK9:=(by rw[HS9.o];exact ak RK8.o _ _ _ (.inl aH):w9.rangeAt w 0 [a6,a6,a6])
  have RV9:=(by rw[HS9.o];exact aa _ _ _ _ TV8.o:w9.rangeAt (w.heap.size+1) 0 [.int .u8 0,a6,.int .i64 0,.slice none 0 0])
  refine aF (v:=.tuple #[.pointer none,.agg ([a6,a6,a6]:List Value).toArray,.agg ([.int .u8 0,a6,.int .i64 0,.slice none 0 0]:List Value).toArray,.bool false]) ?_ rfl ?_
  ·exact S1 results19 _ _ w.heap.size (w.heap.size+1) _ _ _ _ _ _ rfl rfl rfl rfl RK9 RV9 underlying50 rfl aL underlying44 rfl aL
  exact Qco.no (v:=Fm) (sl:=.slice none 0 0) rfl rfl (Eh.nil _ _) (by rw[HS9.o];exact Ai _ aH _ _ _ B8.o)
 |some y=>
  obtain⟨S,k⟩:=y;obtain⟨p,xs,rfl,rfl,hsl⟩:=hcase;obtain⟨g1,_,_,g4,_,g6⟩:=HGo.o _ k rfl;have Hsl:=@Aa (Qq (w.heap.size+2) W2 p xs) (by rw[<-hz1];exact hsl);obtain⟨pb,_,_,_,rfl,_⟩:=hsl;have Hrd:=Aa (fun W (h:Tr W pb xs)=>Qbj pb xs g1 k g4 g6 x W h hx);have HV:=@Aa (No (some (Ag xs,k)) x=Gd (Ag xs) k x) rfl;generalize Gd (Ag xs) k x=o at *;clear g1 g4 g6 HGo Hbo;obtain⟨W3,hW3⟩:∃W3,W3=W2.alloc (.cells #[k.signs,k.base,k.name] 50):=⟨_,rfl⟩
  have hb3:Below W2 W2 W3:=dg;have TK3:=Aa (Aj TK2.o aH hb3);have TV3:=Aa (Aj TV2.o aH hb3);have B3:=Aa (B2.o.trans (hb3.mono B2.o.size));have SL3:=Aa (Hsl.o.below hb3);have RS3:=Aa (show W3.rangeAt W2 0 [k.signs,k.base,k.name]by rw[hW3];exact Bk W2 [k.signs,k.base,k.name] 50);have hz3:W3.heap.size=W2.heap.size+1:=ee;have HW3:=Aa hW3;clear hb3 hW3;unfold Et at Hrd ⊢;go_wp2_with fail;rw[<-HW3.o];refine(Hrd.o W3 SL3.o.isc).mono ?_;rintro e W4 ⟨⟨vl,sl,rfl,hs4,hx4⟩,hb4⟩;obtain⟨A4,c4,rfl⟩:=hs4.form;have hz4:=hb4.size;have Hx4:=Aa hx4;obtain⟨W5,hW5⟩:∃W5,W5=W4.alloc (.cells #[.int .u8 (vl.what.toNat:Int),vl.text,(vl.tag:Int),.slice A4 vl.kids.length c4] 44):=⟨_,rfl⟩
  have hb45:Below W4 W4 W5:=dh;have hb5:Below W3 W3 W5:=hb4.trans (hb45.mono hb4.size);have TK5:=Aa (Aj TK3.o aH hb5);have TV5:=Aa (Aj TV3.o aH hb5);have B5:=Aa (B3.o.trans (hb5.mono B3.o.size));have SL5:=Aa (SL3.o.below hb5);have RS5:=Aa (Ah RS3.o aH hb5);have RV5:=Aa (show W5.rangeAt W4 0 (Kt (vl,.slice A4 vl.kids.length c4))by rw[hW5];exact Bk W4 (Kt (vl,.slice A4 vl.kids.length c4)) 44);have HS5:=Aa ((hs4.after hb45).mono (Q:=fun c=>w.heap.size+2<=c) fun c hc _=>by have:W3.heap.size<=c:=hc;omega);have HW5:=Aa hW5;have hz5:W4.heap.size<W5.heap.size:=d7;clear hW5 hb45 hb5 hb4 hs4 hx4 Hrd;unfold Er;go_upto_region 5 with fail
  rw[<-HW5.o];refine Jo [32,33,34,35,6,999,998,9]
   (fun ix v W=>match ix with|0=>v=pb|1=>v=.agg #[k.signs,k.base,k.name]|2=>v=.agg #[.int .u8 (vl.what.toNat:Int),vl.text,(vl.tag:Int),.slice A4 vl.kids.length c4]|3=>v=.bool o.isSome|4=>v=pb|7=>v=.bool o.isSome|_=>True)
   (fun L U W=>Below w w W/\W.there w 0 3/\W.there (w.heap.size+1) 0 4/\W.rangeAt W2 0 [k.signs,k.base,k.name]/\W.rangeAt W4 0 (Kt (vl,.slice A4 vl.kids.length c4))/\Qq (w.heap.size+2) W pb xs/\Eh (fun c=>w.heap.size+2<=c) W (.slice A4 vl.kids.length c4) vl.kids/\(L 5=true->W.rangeAt w 0 [k.signs,k.base,k.name])/\(L 6=true->W.rangeAt (w.heap.size+1) 0 (Kt (vl,.slice A4 vl.kids.length c4)))) (⟨B5.o.drew,by simpa using TK5.o,by simpa using TV5.o,by simpa using RS5.o,by simpa using RV5.o,SL5.o.below ((Ap _ _).drew),HS5.o.after ((Ap _ _).drew),fun h=>Bool.noConfusion h,fun h=>Bool.noConfusion h⟩) ?_ ?_
  ·repeat (first|exact Ak.nil|(refine Ak.cons ?_ ?_;rotate_left))
   all_goals
    rintro L U W hL hpre HR Hdep K hK;obtain⟨r1,r2,r3,r4,r5,r6,r7,r8,r9⟩:=HR.o;have c0:W.cell? (W2,0)=k.signs:=by simpa using Ab r4 0 rfl
    have c1:W.cell? (W2,1)=k.base:=by simpa using Ab r4 1 rfl
    have c2:W.cell? (W2,2)=k.name:=by simpa using Ab r4 2 rfl
    have d0:W.cell? (W4,0)=some (.int .u8 (vl.what.toNat:Int)):=by simpa using Ab r5 0 rfl
    have d1:W.cell? (W4,1)=vl.text:=by simpa using Ab r5 1 rfl
    have d2:W.cell? (W4,2)=(vl.tag:Int):=by simpa using Ab r5 2 rfl
    have d3:W.cell? (W4,3)=some (.slice A4 vl.kids.length c4):=by simpa using Ab r5 3 rfl
    first|(simp[Region.binds]at hpre;done)|simp[Region.binds]at hpre|clear hpre
   iterate 5
    ·exact ip
   ·have u1:U 1=.agg #[k.signs,k.base,k.name]:=dX;rw[if_pos cx];refine wp_store_mid 50 _ _ rfl w 0 ([k.signs,k.base,k.name]:List Value).toArray rfl u1 r2 aL bh ?_;exact hK undef _ _ Ac Ac ⟨Ai _ (An _) _ _ _ r1,ai r2 _ _ _,ai r3 _ _ _,ak r4 _ _ _ (.inl aH),ak r5 _ _ _ (.inl aH),r6.far (Du _ _ _ W) aH,r7.grown (Du _ _ _ W) (fun b hb e=>by injection e with e;have:w.heap.size+2<=b:=hb;omega),fun _=>aa _ _ _ _ r2,fun h=>ak (r9 h) _ _ _ (.inl aH)⟩ rfl
   ·have u1:U 2=.agg #[.int .u8 (vl.what.toNat:Int),vl.text,(vl.tag:Int),.slice A4 vl.kids.length c4]:=dX;rw[if_pos cx];refine wp_store_mid 44 _ _ rfl (w.heap.size+1) 0 (Kt (vl,.slice A4 vl.kids.length c4)).toArray rfl u1 r3 aL (by simp[Kt,Value.oneCell']) ?_;exact hK undef _ _ Ac Ac ⟨Ai _ aH _ _ _ r1,ai r2 _ _ _,ai r3 _ _ _,ak r4 _ _ _ (.inl aH),ak r5 _ _ _ (.inl aH),r6.far (Du _ _ _ W) aH,r7.grown (Du _ _ _ W) (fun b hb e=>by injection e with e;have:w.heap.size+2<=b:=hb;omega),fun h=>ak (r8 h) _ _ _ (.inl aH),fun _=>aa _ _ _ _ r3⟩ rfl
   ·exact ip
  rintro L U W hL hφ hR;have e4:U 4=pb:=hφ 4 aJ;have e7:U 7=.bool o.isSome:=hφ 7 aJ;simp only[e4,e7];clear hφ;obtain⟨r1,r2,r3,r4,r5,r6,r7,r8,r9⟩:=hR;have R1:=Aa r1;have R6:=Aa r6;have R7:=Aa r7;have R8:=Aa (r8 (hL 5 aJ));have R9:=Aa (r9 (hL 6 aJ));clear hL r1 r2 r3 r4 r5 r6 r7 r8 r9;go_wp2_with fail;refine aF (v:=.tuple #[pb,.agg ([k.signs,k.base,k.name]:List Value).toArray,.agg (Kt (vl,.slice A4 vl.kids.length c4)).toArray,.bool o.isSome]) ?_ rfl ?_
  ·exact S1 results19 _ _ w.heap.size (w.heap.size+1) _ _ _ _ _ _ rfl rfl rfl rfl R8.o R9.o underlying50 rfl aL underlying44 rfl aL
  refine⟨⟨_,_,_,_,vl,_,by rw[HV.o];rfl,R7.o.mono (fun c hc _=>by have:w.heap.size+2<=c:=hc;omega),fun y hy=>?_⟩,R1.o⟩;rw[HV.o]at hy;exact⟨Hx4.o y hy,_,k,xs,rfl,rfl,rfl,rfl,rfl,R6.o.low aH⟩
theorem Vm(s d x:List UInt8)(w:World)(hs:s.length<=4000000)(hd:d.length<=4000000)(hx:x.length<=4000000):
  Calls prog 8 #[s,d,x] w (fun e w'=>e=.returned (.bool (No (At s d) x).isSome)/\Below w w w'):=by
 have H:=@Aa (∀W,Calls prog 19 #[s,d,x] W fun e w'=>(∃p k1 k2 k3 v A n c,e=.returned (.tuple #[.pointer p,.agg #[.string k1,.string k2,.string k3],Er v (.slice A n c),.bool (No (At s d) x).isSome]))/\Below W W w') (fun W=>(Qgh s d x W hs hd hx).mono fun e w1 ⟨⟨p,k1,k2,k3,v,sl,he,hs1,_⟩,hb1⟩=>⟨by obtain⟨A,c,rfl⟩:=hs1.form;exact⟨p,k1,k2,k3,v,A,_,c,he⟩,hb1⟩);generalize (No (At s d) x).isSome=ok at *;go_enter func8,ntmps8;go_wp2_with fail;refine(H.o _).mono ?_;rintro e w1 ⟨⟨p,k1,k2,k3,v,A1,n1,c1,rfl⟩,hb1⟩;have Hb1:=Aa hb1;clear hb1;unfold Er;go_wp2_with fail;go_ret;exact⟨rfl,(Hb1.o.alloc Hb1.o.size _).alloc (by have:=Hb1.o.size;simp;omega) _⟩
end
theorem Tryz.laidOutI:laidOutB prog=true:=aL
def Sw(p:Df):List UInt8:=keyBytes [.string p.1,.string p.2]
theorem Tryz.keyPairs:Go.Maps.Keyed prog 179:=Go.Maps.Keyed.of_law (deep_law_laid Tryz.laidOutI (m:=2) aH (of_decide_eq_true aL) aL aL)
theorem Tryz.typesPos:0<prog.types.size:=of_decide_eq_true aL
theorem Qiw{p q:Df}(hp:p.1.length<=100/\p.2.length<=100)(hq:q.1.length<=100/\q.2.length<=100)(h:Sw p=Sw q):p=q:=by
 have:=keyBytes_inj (l:=[.string p.1,.string p.2]) (l':=[.string q.1,.string q.2]) ⟨Ac,Ac,Ac⟩
  ev ev h
 simp at this;exact Prod.ext this.1 this.2
theorem Tryz.keyPair{a b:Cw}(ha:a.length<=100)(hb:b.length<=100):keyOf prog 179 (.agg #[a,b])=some (.string (Sw (a,b))):=by
 have hkt:prog.keyType 179=true:=aL;have hc:prog.cellsOf 179=2:=aL;have hs:prog.cellsOf 9=1:=aL;have h0:0<prog.types.size:=Tryz.typesPos;obtain⟨d,hd⟩:=Nat.exists_eq_succ_of_ne_zero (Nat.pos_iff_ne_zero.1 h0);have e1:(⟨a.toArray⟩:ByteArray).size=a.length:=by simp[ByteArray.size]
 have e2:(⟨b.toArray⟩:ByteArray).size=b.length:=by simp[ByteArray.size]
 have l1:a.length<=9223372036854775807:=aH;have l2:b.length<=9223372036854775807:=aH;unfold keyOf;simp only[underlying179];have hL:prog.keyLits (prog.types.size+1) 179 [a,b]=some [.string a,.string b]:=by
  rw[hd];simp only[Program.keyLits,underlying179,underlying9,hc,hs,e1,e2,maxLen];simp[Program.keyLits,underlying179,underlying9,hc,hs,e1,e2,l1,l2,maxLen]
 have hf:(Value.agg #[a,b]).formed prog 179=true:=by
  simp[Value.formed,underlying179,hc]
 simp only[hkt,hf,Bool.and_self,if_true,Value.cells,hL,Option.map_some];rfl
def Ry(m:List Df)(l:Lit):Value:=.bool (m.any fun p=>l.sameKey (.string (Sw p)))
theorem Qfr(m:List Df)(p:Df)(l:Lit):(if l.sameKey (.string (Sw p))=true then .bool true else Ry m l)=Ry (m++[p]) l:=by
 unfold Ry;rw[List.any_append];cases h:l.sameKey (.string (Sw p))<;>simp[h]
theorem Qi7{m:List Df}{p:Df}(hp:p.1.length<=100/\p.2.length<=100)(hm:∀q∈m,q.1.length<=100/\q.2.length<=100):Ry m (.string (Sw p))=.bool (decide (p∈m)):=by
 unfold Ry;congr 1
 rw[Bool.eq_iff_iff,List.any_eq_true,decide_eq_true_eq];constructor
 ·rintro⟨q,hq,h⟩;have:Sw p=Sw q:=by simpa [Lit.sameKey]using h
  rw[Qiw hp (hm q hq) this];exact hq
 intro h;exact⟨p,h,by simp[Lit.sameKey]⟩
theorem Tryz.zeroBool(w:World):(zeroValue 4).run prog w=.ok (.bool false) w:=aL
def Fj(w0:World)(p1 p2:Value)(w:World)(m:List Df):Prop:=
 Below w0 w0 w/\w0.heap.size+2<=w.heap.size/\w.cell? (w0,1,0)=some p1/\w.cell? (w0,1,1)=some p2/\w.cell? (w0,1,2)=some (.map (some w0.heap.size)) /\
  D5 prog 179 (.bool false) w w0.heap.size m.length (Ry m)
theorem Fj.below{w0 w w':World}{p1 p2:Value}{m:List Df}(h:Fj w0 p1 p2 w m)(hb:Below w w w'):Fj w0 p1 p2 w' m:=by
 obtain⟨h1,h2,h3,h4,h5,h6⟩:=h
 exact⟨h1.trans (hb.mono aH),ad h2 hb.size,(hb.cell (p:=⟨w0.heap.size+1,0,none⟩) (show w0.heap.size+1<_ by omega)).trans h3,(hb.cell (p:=⟨w0.heap.size+1,1,none⟩) (show w0.heap.size+1<_ by omega)).trans h4,
  (hb.cell (p:=⟨w0.heap.size+1,2,none⟩) (show w0.heap.size+1<_ by omega)).trans h5,h6.below hb⟩
theorem Cx{w w':World}(h:Below w w w')(row:Option Nat):w.grownBy w' row:=⟨h.os,h.tape,h.output,h.size,fun k hk _=>h.block k hk⟩
theorem Fj.push{w0 w w5:World}{p1 p2:Value}{m:List Df}{p:Df}(h:Fj w0 p1 p2 w m)(hg:w.grownBy w5 (some w0.heap.size))(hf:D5 prog 179 (.bool false) w5 w0.heap.size (m.length+1) (fun l=>if l.sameKey (.string (Sw p))=true then .bool true else Ry m l)):Fj w0 p1 p2 w5 (m++[p]):=by
 obtain⟨h1,h2,h3,h4,h5,h6⟩:=h;have hc:∀j,w5.cell? ⟨w0.heap.size+1,j,none⟩=w.cell? ⟨w0.heap.size+1,j,none⟩:=fun j=>hg.cell_far ⟨w0.heap.size+1,j,none⟩ (show w0.heap.size+1<_ by omega) aK;refine⟨h1.grown hg aH (fun k hk=>by injection hk with hk;omega),ad h2 hg.size,(hc 0).trans h3,(hc 1).trans h4,(hc 2).trans h5,?_⟩;rw[ah];exact hf.of_eq (fun l hl=>Qfr m p l)
def Vz(w0:World)(p1 p2:Value)(r:Bool × List Df)(w:World)(e:Ending)(w':World):Prop:=e=.returned (.bool r.1)/\Fj w0 p1 p2 w' r.2/\w.grownBy w' (some w0.heap.size)
def evP(S T:List Ty)(K:Kd->Kd->List Df->Bool × List Df)(t u:Ty)(m:List Df):Bool × List Df:=
 if (t.name,u.name)∈m then(true,m)else evT S T K t u (m++[(t.name,u.name)])
end Go.Proofs.YtbdibdghphdcdaaGreatDoor
