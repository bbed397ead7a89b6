/- Texts joined. Conditions: as each theorem names them. -/
import Derived.Deep.CutRange
import Derived.Deep.DeepCutAuto
import Derived.Test.YtkigmebejmmikaaGreatDoorQ04
import Derived.Test.YtkigmebejmmikaaGreatDoorQ05
import Derived.Test.YtkigmebejmmikaaGreatDoorQ11
import Derived.Test.YtkigmebejmmikaaGreatDoorQ23
import Derived.Test.YtkigmebejmmikaaGreatDoorQ24
import Derived.Test.YtkigmebejmmikaaGreatDoorQ25
import Derived.Test.YtkigmebejmmikaaGreatDoorQ26
set_option maxRecDepth 100000
set_option maxHeartbeats 32000000
set_option linter.unusedVariables false
set_option linter.unusedSimpArgs false
namespace Go.Proofs.YtkigmebejmmikaaGreatDoor
open Go.RowKit Go.Proofs.Tryz
section
attribute [local go_sem] Qja Qit Qib Qgw ByteArray.mk_append_mk
inductive Dw:Vl->Prop
 |fd {tx:List UInt8} {tg:Nat} {x:Vl} (h:Dw x):Dw (.mk 61 tx tg [x])
 |no {w:UInt8} {tx:List UInt8} {tg:Nat} {ks:List Vl} (hw:w≠61) (h:∀x∈ks,Dw x):Dw (.mk w tx tg ks)
theorem Jo.dw{S:List Ty}:∀{d:Nat} {k:Kd} {v:Vl},Jo S d k v->Dw v:=by
 intro d
 induction d with
 |zero=>intro k v h;cases h
 |succ d ih=>
  intro k v h
  cases h with
  |n=>exact .no (by decide) (by simp)
  |t=>exact .no (by decide) (by simp)
  |f=>exact .no (by decide) (by simp)
  |lst hs hl h=>exact .no (by decide) fun x hx=>ih (h x hx)
  |non=>exact .no (by decide) (by simp)
  |som hs h=>exact .no (by decide) fun x hx=>by rw[List.mem_singleton]at hx;subst hx;exact ih h
  |enm=>exact .no (by decide) (by simp)
  |uni hs hb ht h5 hf h=>exact .no (by decide) fun x hx=>by rw[List.mem_singleton]at hx;subst hx;exact ih h
  |rcd hs hb ht h2 hf h hn hp=>
   refine .no (by decide) fun x hx=>?_
   obtain⟨p,hp,rfl⟩:=List.mem_map.1 hx
   exact .fd (ih (h p hp))
theorem Xf(x:Vl):∀l:List Vl,Gu (l++[x])=max (Gu l) (Kh x)
 |[]=>by simp[Gu]
 |y::l=>by rw[List.cons_append,Gu,Xf x l,Gu];omega
theorem Qec(P:Nat->Prop){v:Vl}(hd:Dw v):∀(sl:Value) (w:World),D8 P w sl v.kids->Kh v<=100000 ->
  Calls prog 61 #[G1 v sl] w fun e w'=>e=.returned (.int .i64 (Kh v:Int))/\Below w.heap.size w w':=by
 induction hd with
 |@fd tx tg x hx ih=>
  intro sl w h hl
  obtain⟨A,c,xs,rfl,hks,hlx,hr,hP,hk⟩:=h
  obtain⟨⟨y,ys⟩,rfl⟩:∃a,xs=[a]:=by
   cases xs with
   |nil=>simp[Av,Vl.kids]at hks
   |cons a l=>cases l with
    |nil=>exact⟨a,rfl⟩
    |cons b l=>simp[Av,Vl.kids]at hks
  obtain rfl:x=y:=by simpa [Av,Vl.kids]using hks
  have hdp:Kh (.mk 61 tx tg [x])=Kh x:=by simp[Kh,Gu]
  rw[hdp]at hl ⊢
  have hkx:=hk (x,ys) (by simp)
  obtain⟨A7,c7,e7⟩:=hkx.form
  simp only at e7
  subst e7
  obtain⟨b,off,rfl,hb,d0,d1,d2,d3⟩:=D8.at_ hr (show 0<1 by decide)
  simp only[List.getElem_cons_zero,Nat.zero_mul,Nat.add_zero]at d0 d1 d2 d3
  have Hkx:=Aa hkx
  have Ih:=Aa (fun W h=>ih (.slice A7 x.kids.length c7) W h hl)
  have hbn:¬(b=w.heap.size):=by omega
  generalize Kh x=n at *
  unfold G1 at Ih ⊢
  clear hk hr hP hks hkx ih
  simp only[Vl.what,Vl.text,Vl.tag,List.length_singleton]
  go_enter func61,ntmps61
  go_wp2_with fail
  refine(Ih.o _ (Hkx.o.after ((As _ _).alloc (Ap _) _))).mono ?_
  rintro e w1 ⟨rfl,hb1⟩
  have Hb1:=Aa (((As w.heap.size w).alloc (Ap _) _).trans (hb1.mono (by simp)))
  clear hb1
  go_wp2_with fail
  go_ret
  exact⟨rfl,Hb1.o⟩
 |@no wh tx tg ks hw hks ih=>
  intro sl w h hl
  have t61:((wh.toNat:Int) == 61)=false:=An (d:=61) hw
  have hdp:Kh (.mk wh tx tg ks)=Gu ks+1:=by rw[Kh,if_neg hw]
  rw[hdp]at hl ⊢
  simp only[Vl.kids]at h
  obtain⟨A,c,xs,rfl,rfl,hlx,hr,hP,hk⟩:=h
  have Hdp:=Aa hdp
  have Hr:=Aa hr
  have Hk:=Aa hk
  have Hle:=Aa ((Sm (Av xs) 100000).1 (by omega))
  have Ih:=Aa (fun x hx s W h=>ih x hx s W h (Hle.o x hx))
  clear hr hk hP ih hks hw
  unfold G1
  simp only[Vl.what,Vl.text,Vl.tag]
  have hxl:(Av xs).length=xs.length:=by simp[Av]
  have HF:=Aa (rfl:Av xs=xs.map (·.1))
  go_enter func61,ntmps61
  go_wp2_with fail
  obtain⟨w1,hw1⟩:∃w1,w1=w.alloc (.cells #[.int .u8 (wh.toNat:Int),.string ⟨tx.toArray⟩,.int .i64 (tg:Int),.slice A xs.length c] 42):=⟨_,rfl⟩
  rw[<-hw1]
  have Hb1:=Aa (show Below w.heap.size w w1 by rw[hw1];exact(As _ _).alloc (Ap _) _)
  have hz1:w.heap.size<w1.heap.size:=by rw[hw1];simp
  have Hr1:=Aa (Hr.o.below Hb1.o)
  have Hk1:=Aa (fun x hx=>(Hk.o x hx).after Hb1.o)
  clear hw1 Hr Hk
  go_loopw [17,3] (fun i u wr=>∃m:Nat,i=.int .i64 m/\u=.int .i64 (Gu ((xs.take m).map (·.1)):Int)/\m<=xs.length/\Hid (Gu ((xs.take m).map (·.1))<=100000)/\Hid (Below w1.heap.size w1 wr)) (fun i _ _=>xs.length - (intOf i).toNat)
  case atStart=>exact⟨0,rfl,rfl,Nat.zero_le _,Nat.zero_le _,As _ _⟩
  case round=>
   obtain⟨m,rfl,rfl,hm,hdm,Hbr⟩:=hrel
   have m1:(0:Int)<=(m:Int):=by omega
   by_cases hlt:m<xs.length
   ·have m2:(m:Int)<(xs.length:Int):=by omega
    obtain⟨b,off,rfl,hb,d0,d1,d2,d3⟩:=D8.at_ (Hr1.o.below Hbr.o) hlt
    have Hkx:=Aa ((Hk1.o _ (List.getElem_mem hlt)).after Hbr.o)
    have Hmx:=Aa (show xs[m].1∈Av xs from List.mem_map_of_mem (List.getElem_mem hlt))
    have Hts:=Aa (Bn xs m hlt)
    have hsz:w1.heap.size<=wr.heap.size:=Hbr.o.size
    have hbn:¬(b=wr.heap.size):=by omega
    generalize xs[m]=x at *
    obtain⟨y,ys⟩:=x
    obtain⟨A7,c7,e7⟩:=Hkx.o.form
    simp only at e7 d0 d1 d2 d3 Hkx Hmx
    subst e7
    have hyl:=Hle.o y Hmx.o
    have Hx:=Aa (fun W=>Ih.o y Hmx.o (.slice A7 y.kids.length c7) W)
    have Hsn:=Aa (show Gu ((xs.take (m+1)).map (·.1))=max (Gu ((xs.take m).map (·.1))) (Kh y)by rw[Hts.o,List.map_append];exact Xf y _)
    unfold G1 at Hx
    have hdm':=hdm.o
    generalize Gu ((xs.take m).map (·.1))=q at *
    generalize Kh y=n at *
    go_wp2_with fail
    refine(Hx.o _ (Hkx.o.after ((As _ _).alloc (Ap _) _))).mono ?_
    rintro e w3 ⟨rfl,hb3⟩
    have Hb3:=Aa (((As wr.heap.size wr).alloc (Ap _) _).trans (hb3.mono (by simp)))
    clear hb3
    go_wp2_with fail
    go_roundw
    case rel=>exact⟨m+1,by go_num,by rw[Hsn.o];congr 1;omega,by omega,by rw[Hsn.o];show max q n<=100000;omega,Hbr.o.trans (Hb3.o.mono hsz)⟩
    case measure=>simp[intOf];omega
   ·obtain rfl:m=xs.length:=by omega
    have Hb6:=Aa (Hb1.o.trans (Hbr.o.mono (by omega)))
    have HD:=Aa (show Gu ((xs.take xs.length).map (·.1))=Gu (Av xs)by rw[List.take_length];rfl)
    have hd2:=hdm.o
    generalize Gu ((xs.take xs.length).map (·.1))=q at *
    go_wp2_with fail
    go_ret
    exact⟨Qhc (by have:=HD.o;have:=Hdp.o;omega),Hb6.o⟩
theorem Qfq{st:UInt8}{f:Fd}(h:Se st f):f.given.length<=14:=by
 by_cases hs:st=69
 ·rw[(h.2.2.2.1 hs).2];simp
 by_cases hg:f.given=[]
 ·rw[hg];simp
 have:=((h.2.2.2.2 hs).2 hg).2.2
 unfold Bv at this
 split at this
 ·split at this
  ·rename_i n hd
   have:=Bx.1 hd
   rw[this.2]
   have:=Ds 5 n (by have e:10 ^ (5+1)=1000000:=rfl;omega)
   omega
  cases this
 split at this
 ·simp only[Bool.and_eq_true,decide_eq_true_eq]at this
  have h4:=this.2
  unfold Dh at h4
  simp only[Bool.and_eq_true,decide_eq_true_eq,List.length_dropLast,List.length_drop]at h4
  omega
 split at this
 ·simp only[decide_eq_true_eq]at this;rw[this];simp
 cases this
theorem Qby(w0:World)(b N:Nat)(p:Value)(XS:List PT)(hsc:Qn w0 p XS)(t:List UInt8)(k:Kd)(w:World)(hw:Below w0.heap.size w0 w)(hb:w0.heap.size<=b)(h:Fs w b p t false)(hl:t.length<=900)(hs:k.signs=[])(hbs:k.base=[64])(hnm:k.name.length<=100)
  (x:PT) (hxf:Ej XS k.name=some x) (q:Option (Vl × List UInt8)) (HO:∀W,Below w0.heap.size w0 W->Fs W b p t false->Calls prog 100 #[.pointer (some ⟨b,0,none⟩),.pointer (some ⟨x.blk,0,none⟩)] W (J2 W b p t (N+1) q)):
  Calls prog 57 #[.pointer (some ⟨b,0,none⟩),Fv k] w (J2 w b p t (N+1) q):=by
 have HH:=Aa HO
 obtain⟨pb,A,c,mb,rfl,hpb,hc0,hc1,_,hnd,_,_⟩:=hsc
 have HN:=Aa (fun W (h:Below w0.heap.size w0 W)=>show (Instr.lookup 78 (.map (some mb)) (.string ⟨k.name.toArray⟩) false).run prog W=.ok (.pointer (some ⟨x.blk,0,none⟩)) W from by
  have:=Fa (Di.below hnd h) k.name (by omega);rw[hxf]at this;exact this)
 have HM:=Aa (fun W (h:Below w0.heap.size w0 W)=>(h.cell (p:=⟨pb,1,none⟩) hpb).trans hc1)
 have HS:=Aa h
 have HW:=Aa hw
 have hb0:=h.1
 have hbn:¬(b=w.heap.size):=by omega
 have hbn2:¬(b=w.heap.size+1):=by omega
 have c2:=h.2.2.2.2
 obtain⟨sg,bs,nm⟩:=k
 simp only at hs hbs HN
 subst hs hbs
 unfold Fv
 simp only
 clear h hw hxf HO hc0 hc1 hnd
 go_enter func57,ntmps57
 go_wp2_with fail
 refine(D9 _ _ _).mono ?_
 rintro e w2 ⟨rfl,hb2⟩
 have F2:=Aa ((J3.init (k:=⟨[],[64],nm⟩) HS.o).post hb2)
 clear hb2 c2
 have k0:=Ac F2.o.2.1 0 rfl
 have k1:=Ac F2.o.2.1 1 rfl
 have k2:=Ac F2.o.2.1 2 rfl
 simp only[Nat.zero_add]at k0 k1 k2
 go_wp2_with fail
 have hlz:=F2.o.2.2.2
 have SP:=Aa F2.o.1.1.2.2.1
 have hbz:=F2.o.1.1.1
 refine Be [52,53,54,55,56,57,58,59,60,61,62,63,999] (by kernel_rfl) (by kernel_rfl) (by kernel_rfl) (fun u=>by dsimp only[Br,Bi,List.set,Nat.zero_add,Nat.reduceAdd])
  (fun ix v W=>match ix with|0=>v=.pointer (some ⟨b,0,none⟩)|1=>v=.pointer (some ⟨b,0,none⟩)|2=>v=.pointer (some ⟨b,0,none⟩)|3=>v=.pointer (some ⟨b,0,none⟩)|4=>v=.pointer (some ⟨pb,0,none⟩)|5=>v=.pointer (some ⟨pb,0,none⟩)|6=>v=.pointer (some ⟨pb,1,none⟩)|7=>v=.map (some mb)|8=>v=.pointer (some ⟨w.heap.size,2,none⟩)|9=>v=.string ⟨nm.toArray⟩|10=>v=.pointer (some ⟨x.blk,0,none⟩)|11=>∃x s,v=G1 x s|_=>True)
  (fun L U W=>(L 11=false->Below w2.heap.size w2 W)/\(L 11=true->L 12=false->∃v sl t',U 11=G1 v sl/\D8 (fun c=>w.heap.size+2<=c) W sl v.kids/\J3 w b (.pointer (some ⟨pb,0,none⟩)) ⟨[],[64],nm⟩ t' q.isNone W/\(∀x,q=some x->v=x.1/\t'=x.2)/\Bd v/\t'.length<=t.length/\(Az v).length+t'.length<=t.length+8*(N+1)) /\
  (L 12=true->∃v sl,J2 w b (.pointer (some ⟨pb,0,none⟩)) t (N+1) q (.returned (.agg (G6 v sl).toArray)) W/\W.rangeAt (w.heap.size+1) 0 (G6 v sl))) (fun _ _=>True) (fun _ _ _ _ _ h=>h) (⟨fun _=>(As _ _).drew,fun h=>Bool.noConfusion h,fun h=>Bool.noConfusion h⟩) ?_ ?_
 ·repeat (first|exact Aq.nil|(refine Aq.cons ?_ ?_;rotate_left))
  all_goals
   rintro L U W hL hpre hR hun hdep K hK
   have HR:=Aa hR
   obtain⟨R1,R2,R3⟩:=HR.o
   have Hdep:=Aa hdep
   clear hun hdep hR
   first|(simp[Region.binds]at hpre;done)|simp[Region.binds]at hpre|clear hpre
  iterate 4
   ·go_simp
    first|exact hK _ _ _ rfl Ab HR.o rfl|exact kE hK HR.o|exact hK undef _ _ Ab Ab HR.o (by simp[Act.put,hpre])|exact hK _ _ _ Ab Ab HR.o rfl|exact kE hK HR.o
  ·have h5:L 5=false:=Bz Hdep.o 5 4 rfl hL
   have h6:L 6=false:=Bz Hdep.o 6 5 rfl h5
   have h7:L 7=false:=Bz Hdep.o 7 6 rfl h6
   have h10:L 10=false:=Bz Hdep.o 10 7 rfl h7
   have h11:L 11=false:=Bz Hdep.o 11 10 rfl h10
   have hB:=R1 h11
   have hW2:=(F2.o.post hB).1.env HW.o hb
   have p0:W.cell? ⟨b,0,none⟩=some (.pointer (some ⟨pb,0,none⟩)):=(hB.cell (p:=⟨b,0,none⟩) hbz).trans SP.o
   go_simp
   first|exact hK _ _ _ rfl Ab HR.o rfl|exact kE hK HR.o
  iterate 2
   ·go_simp
    first|exact hK _ _ _ rfl Ab HR.o rfl|exact kE hK HR.o|exact hK undef _ _ Ab Ab HR.o (by simp[Act.put,hpre])|exact hK _ _ _ Ab Ab HR.o rfl|exact kE hK HR.o
  ·have h10:L 10=false:=Bz Hdep.o 10 7 rfl hL
   have h11:L 11=false:=Bz Hdep.o 11 10 rfl h10
   have hB:=R1 h11
   have hW2:=(F2.o.post hB).1.env HW.o hb
   have m1:=HM.o W hW2
   go_simp
   first|exact hK _ _ _ rfl Ab HR.o rfl|exact kE hK HR.o
  ·go_simp
   first|exact hK _ _ _ rfl Ab HR.o rfl|exact kE hK HR.o|exact hK undef _ _ Ab Ab HR.o (by simp[Act.put,hpre])|exact hK _ _ _ Ab Ab HR.o rfl|exact kE hK HR.o
  ·have h10:L 10=false:=Bz Hdep.o 10 9 rfl hL
   have h11:L 11=false:=Bz Hdep.o 11 10 rfl h10
   have hB:=R1 h11
   have hW2:=(F2.o.post hB).1.env HW.o hb
   have n2:W.cell? ⟨w.heap.size,2,none⟩=some (.string ⟨nm.toArray⟩):=(hB.cell (p:=⟨w.heap.size,2,none⟩) (show w.heap.size<_ by omega)).trans k2
   go_simp
   first|exact hK _ _ _ rfl Ab HR.o rfl|exact kE hK HR.o
  ·have h11:L 11=false:=Bz Hdep.o 11 10 rfl hL
   have hB:=R1 h11
   have hW2:=(F2.o.post hB).1.env HW.o hb
   have hlk:=HN.o W hW2
   go_simp
   first|exact hK _ _ _ rfl Ab HR.o rfl|exact kE hK HR.o
  ·have h12:L 12=false:=Bz Hdep.o 12 11 rfl hL
   have hB:=R1 hL
   have F3:=F2.o.post hB
   go_simp
   refine(HH.o W (F3.1.env HW.o hb) F3.1.1).mono ?_
   rintro e w5 ⟨v,sl,t',rfl,hk5,hs5,hx5,hB5,hl5,hn5⟩
   exact hK (G1 v sl) _ _ ⟨v,sl,rfl⟩ Ab ⟨fun h=>by simp at h,fun _ _=>⟨v,sl,t',rfl,hk5.mono fun c hc _=>(by have:=hB.size;omega),F3.step hb0 hs5,hx5,hB5,hl5,hn5⟩,fun h=>absurd (h12.symm.trans (by simpa using h)) (by decide)⟩ (by simp[Act.put,hpre])
  ·have l11:L 11=true:=hpre.1.1
   obtain⟨v,sl,t',u11,hk5,F5,hx5,hB5,hl5,hn5⟩:=R2 l11 hL
   obtain⟨A7,c7,rfl⟩:=hk5.form
   have Z:=J3.fin (w9:=W.setCells (w.heap.size+1) 0 (G6 v (.slice A7 v.kids.length c7))) (t:=t) (N:=N+1) (v:=v) (sl:=.slice A7 v.kids.length c7) (r:=q) F5 hb0 rfl hk5 rfl hx5 hB5 hl5 hn5
   rw[if_pos (by rfl)]
   refine wp_store_mid 42 _ _ rfl (w.heap.size+1) 0 (G6 v (.slice A7 v.kids.length c7)).toArray rfl u11 F5.2.2.1 (by kernel_rfl) (by simp[G6,Value.oneCell']) ?_
   exact hK undef _ _ Ab Ab ⟨fun h=>absurd (l11.symm.trans (by simpa using h)) (by decide),fun _ h=>by simp at h,fun _=>⟨v,_,Z.1,Z.2⟩⟩ rfl
 rintro L U W hL hφ hR
 clear hφ
 obtain⟨_,_,h3⟩:=hR
 obtain⟨v,sl,Z1,Z2⟩:=h3 (hL 12 (by decide))
 clear hL h3
 go_wp2_with fail
 exact bodyPost_ret (v:=.agg (G6 v sl).toArray) (Ay results57 _ _ (w.heap.size+1) _ _ rfl Z2 underlying42 rfl (by kernel_rfl)) rfl Z1
theorem Qbc(w0:World)(b N:Nat)(p:Value)(S:List Ty)(t:List UInt8)(k:Kd)(w:World)(hw:Below w0.heap.size w0 w)(hb:w0.heap.size<=b)(h:Fs w b p t false)(hl:t.length<=900)(hN:t.length<=N)(hN2:N<=2000)(sg:List UInt8)(hs:k.signs=91::sg)(hsl:sg.length<=100)
  (H:IvC w0 b p S N k.part) (HG:∀s v r,Ai S 1000 N k.part s=some (v,r)->s=Az v++r) (q:Option (Vl × List UInt8)) (hq:q=Sa (Ai S 1000 N k.part) 1000 t):
  Calls prog 57 #[.pointer (some ⟨b,0,none⟩),Fv k] w (J2 w b p t (N+1) q):=by
 have HL:=Aa (fun W (h1:Below w0.heap.size w0 W) (h2:Fs W b p t false)=>Qel w0 b N p S t k.part W h1 hb h2 hl hN hN2 H HG q hq)
 have HP:=Aa (fun W=>N4 k W 91 sg hs (by omega))
 have HS:=Aa h
 have HW:=Aa hw
 have hb0:=h.1
 have hbn:¬(b=w.heap.size):=by omega
 have hbn2:¬(b=w.heap.size+1):=by omega
 have c2:=h.2.2.2.2
 obtain⟨sg',bs,nm⟩:=k
 simp only at hs
 subst hs
 generalize hkp:(⟨91::sg,bs,nm⟩:Kd).part=kp at *
 unfold Fv at HP ⊢ HL
 simp only at HP ⊢
 clear h hq hw H HG hkp
 go_enter func57,ntmps57
 go_wp2_with fail
 refine(Fm 91 sg (by omega) _ _ _).mono ?_
 rintro e w2 ⟨rfl,hb2⟩
 have F2:=Aa ((J3.init (k:=⟨91::sg,bs,nm⟩) HS.o).post hb2)
 clear hb2 c2
 have k0:=Ac F2.o.2.1 0 rfl
 have k1:=Ac F2.o.2.1 1 rfl
 have k2:=Ac F2.o.2.1 2 rfl
 simp only[Nat.zero_add]at k0 k1 k2
 go_wp2_with fail
 refine(HP.o _).mono ?_
 rintro e w3 ⟨rfl,hb3⟩
 have F3:=Aa (F2.o.post hb3)
 clear hb3 k0 k1 k2
 go_wp2_with fail
 refine(HL.o _ (F3.o.1.env HW.o hb) F3.o.1.1).mono ?_
 rintro e w4 ⟨v,sl,t',rfl,hk4,hs4,hx4,hB4,hl4,hn4⟩
 obtain⟨A7,c7,rfl⟩:=hk4.form
 have F4:=Aa (F3.o.step hb0 hs4)
 have hz3:=F3.o.2.2.2
 have Hk4:=Aa hk4
 have Hx4:=Aa hx4
 have HB4:=Aa hB4
 clear hs4 hk4 hx4 hB4
 unfold G1
 go_wp2_with ((with_reducible refine Ad (op:=⟨none,.store 42 _ _,_,_,_,none⟩) rfl 42 _ _ rfl (w.heap.size+1) 0 (G6 v (.slice A7 v.kids.length c7)) ?_ ?_ ?_ ?_ ?_ ?_);rfl;rfl;(exact F4.o.2.2.1);kernel_rfl;(simp[G6,Value.oneCell']);intro w9 HS9)
 have Z:=J3.fin (t:=t) (N:=N+1) (v:=v) (sl:=.slice A7 v.kids.length c7) (r:=q) F4.o hb0 HS9.o (Hk4.o.mono fun c hc _=>by omega) rfl Hx4.o HB4.o hl4 hn4
 exact bodyPost_ret (v:=.agg (G6 v (.slice A7 v.kids.length c7)).toArray) (Ay results57 _ _ (w.heap.size+1) _ _ rfl Z.2 underlying42 rfl (by kernel_rfl)) rfl Z.1
theorem Qcc(w0:World)(b:Nat)(p:Value)(XS:List PT)(hsc:Qn w0 p XS)(hS:P5 (Ag XS))(hb:w0.heap.size<=b):∀(N:Nat),N<=2000->∀(k:Kd),Co k->Cb (Ag XS) k->IvC w0 b p (Ag XS) N k:=by
 intro N
 induction N with
 |zero=>
  intro _ k hk hr t bad w hw h hl hN
  cases bad with
  |true=>exact Tx b 0 p t k w h
  |false=>exact absurd (hN rfl) (Nat.not_lt_zero _)
 |succ N ih=>
  intro hN2 k hk hr t bad w hw h hl hN
  cases bad with
  |true=>exact Tx b (N+1) p t k w h
  |false=>
   have hN:=Nat.le_of_lt_succ (hN rfl)
   rw[if_neg (by decide)]
   have hTy:∀t∈Ag XS,Dc t:=hS.1.1
   unfold Ai
   cases hs:k.signs with
   |cons c sg=>
    simp only
    have hsl:sg.length<=100:=by have:=hk.2.2;unfold Bq at this;rw[hs]at this;simp at this;omega
    have hp:=(Ks hk).1
    have hrp:Cb (Ag XS) k.part:=hr
    rcases Z4 hk hs with rfl|rfl
    ·rw[if_pos rfl]
     exact Qbc w0 b N p (Ag XS) t k w hw hb h hl hN (by omega) sg hs hsl (ih (by omega) k.part hp hrp) (fun s v r h=>(Ff hTy 1000 N k.part s v r hp h).2) _ rfl
    rw[if_neg (by decide)]
    exact Qa1 w0 b N p (Ag XS) t k w hw hb h hl hN (by omega) sg hs hsl (ih (by omega) k.part hp hrp) _ rfl
   |nil=>
    simp only
    by_cases h1:k.base=[110]
    ·rw[if_pos h1];exact Qfi b N p t k w h hl hs h1 _ rfl
    rw[if_neg h1]
    by_cases h2:k.base=[116]
    ·rw[if_pos h2];exact Qew b N p t k w h hl hs h2 _ rfl
    rw[if_neg h2]
    by_cases h3:k.base=[102]
    ·rw[if_pos h3];exact Qf9 b N p t k w h hl hs h3 _ rfl
    rw[if_neg h3]
    have h64:k.base=[64]:=by
     rcases hk.2.1 with h|⟨h|h|h,_⟩
     ·exact h.1
     ·exact absurd h h1
     ·exact absurd h h2
     exact absurd h h3
    have hnm:k.name.length<=100:=by
     rcases hk.2.1 with h|⟨_,h⟩
     ·have:=(C9.1 h.2).2.1;omega
     rw[h];simp
    have hr2:=hr h64
    rw[Gb]at hr2 ⊢
    cases hx:Ej XS k.name with
    |none=>rw[hx]at hr2;cases hr2
    |some x=>
     simp only[Option.map_some]
     have hxm:=(Dz hx).1
     have hxt:=(Dz hx).2.2
     have hxi:Qv w0 x:=by obtain⟨_,_,_,_,_,_,_,_,_,_,h6,_⟩:=hsc;exact h6 x hxm
     have hto:=hTy x.ty (List.mem_map_of_mem hxm)
     refine Qby w0 b N p XS hsc t k w hw hb h hl hs h64 hnm x hx _ fun W hW hSc=>?_
     have htg:∀f∈x.ty.fields,f.tag<=200:=fun f hf=>(hto.2.2.1.1 f hf).2.1
     by_cases h9:x.ty.sort=69
     ·exact Qgu w0 b N p (Ag XS) x hxi h9 t W hW hb hSc hl _ rfl
     have hfk:∀f∈x.ty.fields,Co f.kind/\Cb (Ag XS) f.kind/\f.given.length<=1000:=fun f hf=>
      ⟨(Ph hTy hxt h9 hf).1,hS.2.1 x.ty (Bs hxt).1 h9 f hf,by have:=Qfq (hto.2.2.1.1 f hf);omega⟩
     have HF:∀f∈x.ty.fields,IvC w0 b p (Ag XS) N f.kind:=fun f hf=>ih (by omega) f.kind (hfk f hf).1 (hfk f hf).2.1
     by_cases h5:x.ty.sort=85
     ·exact Qgc w0 b N p (Ag XS) x hxi h5 t W hW hb hSc hl hN (by omega) htg HF _ rfl
     have h82:x.ty.sort=82:=by
      rcases hto.1 with h|h|h
      ·exact h
      ·exact absurd h h5
      exact absurd h h9
     exact Qfr w0 b N p XS hsc hS x hxi h82 t W hW hb hSc hl hN (by omega) htg hfk HF (fun f hf s v r h=>(Ff hTy 1000 N f.kind s v r (hfk f hf).1 h).2) _ rfl
def Pq(o:Option Vl)(w:World)(e:Ending)(w':World):Prop:=
 (∃v sl,e=.returned (.tuple #[G1 v sl,.bool o.isSome])/\D8 (fun b=>w.heap.size<=b) w' sl v.kids/\∀x,o=some x->v=x)/\Below w.heap.size w w'
theorem Pq.no{o:Option Vl}{w w':World}{e:Ending}(ho:o=none)(he:e=.returned (.tuple #[G1 Fi (.slice none 0 0),.bool false]))(hb:Below w.heap.size w w'):Pq o w e w':=by
 subst ho
 exact⟨⟨Fi,_,he,D8.nil _ _,by simp⟩,hb⟩
theorem Qd4(p:Value)(XS:List PT)(hS:P5 (Ag XS))(k:Kd)(hk:Co k)(hr:Cb (Ag XS) k)(s:List UInt8)(w:World)(hsc:Qn w p XS)(hs:s.length<=4000000):
  Calls prog 34 #[p,Fv k,.string ⟨s.toArray⟩] w (Pq (Jr (Ag XS) k s) w):=by
 have hTy:∀t∈Ag XS,Dc t:=hS.1.1
 by_cases hl:400<s.length
 ·have HQ:=Aa (show Jr (Ag XS) k s=none by unfold Jr;rw[if_pos hl])
  have t1:decide ((400:Int)<(s.length:Int))=true:=decide_eq_true (by omega)
  have TH:=Cw (w.alloc (.cells #[.string ⟨k.signs.toArray⟩,.string ⟨k.base.toArray⟩,.string ⟨k.name.toArray⟩] 39)) [.int .u8 0,.string ⟨#[]⟩,.int .i64 0,.slice none 0 0] 42
  simp at TH
  have BL:Below w.heap.size w ((w.alloc (.cells #[.string ⟨k.signs.toArray⟩,.string ⟨k.base.toArray⟩,.string ⟨k.name.toArray⟩] 39)).alloc (.cells #[.int .u8 0,.string ⟨#[]⟩,.int .i64 0,.slice none 0 0] 42)):=((As _ _).alloc (Ap _) _).alloc (by simp) _
  unfold Fv
  go_enter func34,ntmps34
  go_wp2_with ((with_reducible refine Ad (op:=⟨none,.store 42 _ _,_,_,_,none⟩) rfl 42 _ _ rfl (w.heap.size+1) 0 [.int .u8 0,.string ⟨#[]⟩,.int .i64 0,.slice none 0 0] ?_ ?_ ?_ ?_ ?_ ?_);rfl;rfl;(exact TH);kernel_rfl;(simp[G6,Value.oneCell']);intro w9 HS9)
  have HZ:=(by rw[HS9.o];exact World.rangeAt_setCells_same _ _ _ _ (TH):w9.rangeAt (w.heap.size+1) 0 (G6 Fi (.slice none 0 0)))
  refine bodyPost_ret (v:=.tuple #[.agg (G6 Fi (.slice none 0 0)).toArray,.bool false]) (Ao results34 _ _ (w.heap.size+1) _ _ _ rfl rfl HZ underlying42 rfl (by kernel_rfl)) rfl ?_
  exact Pq.no HQ.o rfl (by rw[HS9.o];exact Ah _ (by omega) _ _ _ BL)
 have HQ0:=Aa (Qeb hTy hk (by omega:s.length<=400) 1000 500 (by omega) (by omega))
 have t1:decide ((400:Int)<(s.length:Int))=false:=decide_eq_false (by omega)
 have HG:=Aa (fun v r=>Ff hTy 1000 500 k s v r hk)
 have HV:=Aa (fun w0 b (h0:Qn w0 p XS) hb W (hW:Below w0.heap.size w0 W) (h2:Fs W b p s false)=>Qcc w0 b p XS h0 hS hb 500 (by omega) k hk hr s false W hW h2 (by omega) (fun _=>by omega))
 simp only[Bool.false_eq_true,if_false]at HV
 generalize Jr (Ag XS) k s=q at *
 generalize hrd:Ai (Ag XS) 1000 500 k s=rd at *
 have Hsc:=Aa hsc
 obtain⟨pb,_,_,_,rfl,_⟩:=hsc
 unfold Fv at HV ⊢
 clear hrd hS hk hr hTy
 go_enter func34,ntmps34
 go_wp2_with fail
 obtain⟨W1,hW1⟩:∃W1,W1=(w.alloc (.cells #[.string ⟨k.signs.toArray⟩,.string ⟨k.base.toArray⟩,.string ⟨k.name.toArray⟩] 39)).alloc (.cells #[.int .u8 0,.string ⟨#[]⟩,.int .i64 0,.slice none 0 0] 42):=⟨_,rfl⟩
 rw[<-hW1]
 have hz1:W1.heap.size=w.heap.size+2:=by rw[hW1];simp
 have B1:=Aa (show Below w.heap.size w W1 by rw[hW1];exact((As _ _).alloc (Ap _) _).alloc (by simp) _)
 have T1:=Aa (show W1.there (w.heap.size+1) 0 4 by rw[hW1];have:=Cw (w.alloc (.cells #[.string ⟨k.signs.toArray⟩,.string ⟨k.base.toArray⟩,.string ⟨k.name.toArray⟩] 39)) [.int .u8 0,.string ⟨#[]⟩,.int .i64 0,.slice none 0 0] 42;simpa using this)
 clear hW1
 obtain⟨W2,hW2⟩:∃W2,W2=W1.alloc (.cells #[.pointer (some ⟨pb,0,none⟩),.string ⟨s.toArray⟩,.bool false] 56):=⟨_,rfl⟩
 have hb2:Below W1.heap.size W1 W2:=by rw[hW2];exact(As _ _).alloc (Ap _) _
 have S2:=Aa (show Fs W2 W1.heap.size (.pointer (some ⟨pb,0,none⟩)) s false from by rw[hW2];exact⟨by simp,Py.new _ _ _,by simp,by simp,by simp⟩)
 rw[hz1]at S2
 rw[<-hW2]
 refine(HV.o W1 (w.heap.size+1+1) (Hsc.o.below B1.o) (by omega) W2 hb2 S2.o).mono ?_
 rintro e w3 ⟨v,sl,t',rfl,hk3,hs3,hx3,hB3,hl3,hn3⟩
 obtain⟨A7,c7,rfl⟩:=hk3.form
 have hz2:W1.heap.size<W2.heap.size:=by rw[hW2];simp
 have T3:=Aa (Gq (At T1.o (by omega) hb2) hs3.2 (by omega) (by simp))
 have B3:=Aa (show Below w.heap.size w w3 from(B1.o.trans (hb2.mono (by omega))).grown hs3.2 (by omega) (fun k e=>by injection e with e;omega))
 have S3:=Aa hs3.1
 have hz3:W2.heap.size<=w3.heap.size:=hs3.2.size
 have Hk3:=Aa hk3
 have Hx3:=Aa hx3
 have T4:=Aa (fun o=>At T3.o (by omega) ((As w3.heap.size w3).alloc (Ap _) o))
 have B4:=Aa (fun o=>B3.o.alloc B3.o.size o)
 clear hs3 hk3 hx3 HV hW2 hb2 T1 B1 hB3
 unfold G1
 have c1:=S3.o.2.2.2.1
 have c2:=S3.o.2.2.2.2
 have hbw:=S3.o.1
 have hbn:¬(w.heap.size+1+1=w3.heap.size):=by omega
 cases rd with
 |none=>
  have HQ:=Aa (show q=none from HQ0.o)
  simp only[Option.isNone_none]at c2
  go_wp2_with ((with_reducible refine Ad (op:=⟨none,.store 42 _ _,_,_,_,none⟩) rfl 42 _ _ rfl (w.heap.size+1) 0 [.int .u8 0,.string ⟨#[]⟩,.int .i64 0,.slice none 0 0] ?_ ?_ ?_ ?_ ?_ ?_);rfl;rfl;(exact T4.o _);kernel_rfl;(simp[G6,Value.oneCell']);intro w9 HS9)
  have HZ:=(by rw[HS9.o];exact World.rangeAt_setCells_same _ _ _ _ (T4.o _):w9.rangeAt (w.heap.size+1) 0 (G6 Fi (.slice none 0 0)))
  refine bodyPost_ret (v:=.tuple #[.agg (G6 Fi (.slice none 0 0)).toArray,.bool false]) (Ao results34 _ _ (w.heap.size+1) _ _ _ rfl rfl HZ underlying42 rfl (by kernel_rfl)) rfl ?_
  exact Pq.no HQ.o rfl (by rw[HS9.o];exact Ah _ (by omega) _ _ _ (B4.o _))
 |some y=>
  obtain⟨v0,r⟩:=y
  obtain⟨rfl,rfl⟩:=Hx3.o _ rfl
  have hv:=(HG.o v t' rfl).1
  simp only[Option.isNone_some]at c2
  have hd5:Kh v<=500:=(Gy _ _ _ _ hv 500).1 hv
  have HD:=Aa (fun W (h:Below w3.heap.size w3 W)=>Qec _ hv.dw (.slice A7 v.kids.length c7) W (Hk3.o.after h) (by omega))
  unfold G1 at HD
  cases ht:t' with
  |cons c u=>
   rw[ht]at HQ0 c1
   have HQ:=Aa (show q=none from HQ0.o)
   clear ht
   go_wp2_with ((with_reducible refine Ad (op:=⟨none,.store 42 _ _,_,_,_,none⟩) rfl 42 _ _ rfl (w.heap.size+1) 0 [.int .u8 0,.string ⟨#[]⟩,.int .i64 0,.slice none 0 0] ?_ ?_ ?_ ?_ ?_ ?_);rfl;rfl;(exact T4.o _);kernel_rfl;(simp[G6,Value.oneCell']);intro w9 HS9)
   have HZ:=(by rw[HS9.o];exact World.rangeAt_setCells_same _ _ _ _ (T4.o _):w9.rangeAt (w.heap.size+1) 0 (G6 Fi (.slice none 0 0)))
   refine bodyPost_ret (v:=.tuple #[.agg (G6 Fi (.slice none 0 0)).toArray,.bool false]) (Ao results34 _ _ (w.heap.size+1) _ _ _ rfl rfl HZ underlying42 rfl (by kernel_rfl)) rfl ?_
   exact Pq.no HQ.o rfl (by rw[HS9.o];exact Ah _ (by omega) _ _ _ (B4.o _))
  |nil=>
   rw[ht]at HQ0 c1
   have HQ1:=Aa (show q=if Kh v<=12 then some v else none from HQ0.o)
   clear ht hv
   go_wp2_with fail
   refine(HD.o _ ((As _ _).alloc (Ap _) _)).mono ?_
   rintro e w5 ⟨rfl,hb5⟩
   have hb5':Below w3.heap.size w3 w5:=((As w3.heap.size w3).alloc (Ap _) _).trans (hb5.mono (by simp))
   have T5:=Aa (At T3.o (by omega) hb5')
   have B5:=Aa (B3.o.trans (hb5'.mono B3.o.size))
   have X5:=Aa (Ar (Ck w3 (G6 v (.slice A7 v.kids.length c7)) 42) (by simp) hb5)
   have hz5:=hb5'.size
   have d0:=Ac X5.o 0 rfl
   have d1:=Ac X5.o 1 rfl
   have d2:=Ac X5.o 2 rfl
   have d3:=Ac X5.o 3 rfl
   simp only[Nat.zero_add]at d0 d1 d2 d3
   have Hk5:=Aa (Hk3.o.after hb5')
   clear hb5 hb5'
   by_cases h12:Kh v<=12
   ·have t2:decide ((12:Int)<(Kh v:Int))=false:=decide_eq_false (by omega)
    have HQ:=Aa (show q=some v by rw[HQ1.o,if_pos h12])
    clear HQ1 HQ0
    generalize Kh v=n at *
    go_wp2_with ((with_reducible refine Ad (op:=⟨none,.store 42 _ _,_,_,_,none⟩) rfl 42 _ _ rfl (w.heap.size+1) 0 (G6 v (.slice A7 v.kids.length c7)) ?_ ?_ ?_ ?_ ?_ ?_);rfl;rfl;(exact T5.o);kernel_rfl;(simp[G6,Value.oneCell']);intro w9 HS9)
    have HZ:w9.rangeAt (w.heap.size+1) 0 (G6 v (.slice A7 v.kids.length c7)):=by rw[HS9.o];exact World.rangeAt_setCells_same _ _ _ _ T5.o
    refine bodyPost_ret (v:=.tuple #[.agg (G6 v (.slice A7 v.kids.length c7)).toArray,.bool true]) (Ao results34 _ _ (w.heap.size+1) _ _ _ rfl rfl HZ underlying42 rfl (by kernel_rfl)) rfl ?_
    rw[HQ.o,HS9.o]
    exact⟨⟨v,_,rfl,(Hk5.o.set (B:=w.heap.size+1) (by omega) _).mono (fun c hc _=>by omega),by simp⟩,Ah _ (by omega) _ _ _ B5.o⟩
   have t2:decide ((12:Int)<(Kh v:Int))=true:=decide_eq_true (by omega)
   have HQ:=Aa (show q=none by rw[HQ1.o,if_neg h12])
   clear HQ1 HQ0
   generalize Kh v=n at *
   go_wp2_with ((with_reducible refine Ad (op:=⟨none,.store 42 _ _,_,_,_,none⟩) rfl 42 _ _ rfl (w.heap.size+1) 0 [.int .u8 0,.string ⟨#[]⟩,.int .i64 0,.slice none 0 0] ?_ ?_ ?_ ?_ ?_ ?_);rfl;rfl;(exact T5.o);kernel_rfl;(simp[G6,Value.oneCell']);intro w9 HS9)
   have HZ:=(by rw[HS9.o];exact World.rangeAt_setCells_same _ _ _ _ (T5.o):w9.rangeAt (w.heap.size+1) 0 (G6 Fi (.slice none 0 0)))
   refine bodyPost_ret (v:=.tuple #[.agg (G6 Fi (.slice none 0 0)).toArray,.bool false]) (Ao results34 _ _ (w.heap.size+1) _ _ _ rfl rfl HZ underlying42 rfl (by kernel_rfl)) rfl ?_
   exact Pq.no HQ.o rfl (by rw[HS9.o];exact Ah _ (by omega) _ _ _ B5.o)
section
variable {P:Program}
theorem Pf{fn:Func}{r p p2 q:Tmp}{ty ty2:TypeId}(h:fn.results=#[.tmp r,.cell p ty,.cell p2 ty2,.tmp q])(tmps:Array Value)(w:World)(b b2:Nat)(cs cs2:List Value)(d d2:TypeDesc)(y x:Value)
  (hr:tmps.getD r undef=y) (hp:tmps.getD p undef=.pointer (some ⟨b,0,none⟩)) (hp2:tmps.getD p2 undef=.pointer (some ⟨b2,0,none⟩)) (hq:tmps.getD q undef=x) (hc:w.rangeAt b 0 cs) (hc2:w.rangeAt b2 0 cs2)
  (hu:P.underlying ty=some d) (hd:d.isRow=true) (hi:(P.info? ty).map (·.size)=some cs.length) (hu2:P.underlying ty2=some d2) (hd2:d2.isRow=true) (hi2:(P.info? ty2).map (·.size)=some cs2.length):
  (results fn tmps).run P w=.ok (.tuple #[y,.agg cs.toArray,.agg cs2.toArray,x]) w:=by
 have hp':tmps[p]?.getD undef=.pointer (some ⟨b,0,none⟩):=by simpa using hp
 have hp2':tmps[p2]?.getD undef=.pointer (some ⟨b2,0,none⟩):=by simpa using hp2
 have hq':tmps[q]?.getD undef=x:=by simpa using hq
 have hr':tmps[r]?.getD undef=y:=by simpa using hr
 simp[results,h,hp',hp2',hq',hr',asAddr,run_loadVar_mid w b 0 ty cs d hc hu hd hi,run_loadVar_mid w b2 0 ty2 cs2 d2 hc2 hu2 hd2 hi2]
end
theorem T0.low{lo lo':Nat}{w:World}{p:Value}{xs:List PT}(h:T0 lo w p xs)(hl:lo'<=lo):T0 lo' w p xs:=by
 obtain⟨b,A,c,mb,e,h0,h1,h2,h3,h4,h5,h6,l1,l2,l3,l4⟩:=h
 exact⟨b,A,c,mb,e,h0,h1,h2,h3,h4,h5,h6,by omega,by omega,fun g o hn e=>by have:=l3 g o hn e;omega,fun x hx=>⟨by have:=(l4 x hx).1;omega,fun k hn hk=>by have:=(l4 x hx).2 k hn hk;omega⟩⟩
def Qz(o:Option (List Ty × Kd))(x:List UInt8)(w:World)(e:Ending)(w':World):Prop:=
 (∃p k1 k2 k3 v sl,e=.returned (.tuple #[.pointer p,.agg #[.string k1,.string k2,.string k3],G1 v sl,.bool (Tc o x).isSome])/\D8 (fun c=>w.heap.size<=c) w' sl v.kids /\
  ∀y,Tc o x=some y->v=y/\∃S k xs,o=some (S,k)/\Ag xs=S/\k1=⟨k.signs.toArray⟩/\k2=⟨k.base.toArray⟩/\k3=⟨k.name.toArray⟩/\T0 w.heap.size w' (.pointer p) xs)/\Below w.heap.size w w'
theorem Qz.no{o:Option (List Ty × Kd)}{x:List UInt8}{w w':World}{e:Ending}(ho:Tc o x=none){p:Option Addr}{k1 k2 k3:ByteArray}{v:Vl}{sl:Value}(he:e=.returned (.tuple #[.pointer p,.agg #[.string k1,.string k2,.string k3],G1 v sl,.bool false]))(hs:D8 (fun c=>w.heap.size<=c) w' sl v.kids)(hb:Below w.heap.size w w'):Qz o x w e w':=by
 refine⟨⟨p,k1,k2,k3,v,sl,by rw[ho];exact he,hs,fun y hy=>?_⟩,hb⟩
 rw[ho]at hy;cases hy
theorem Qa7(s d x:List UInt8)(w:World)(hs:s.length<=4000000)(hd:d.length<=4000000)(hx:x.length<=4000000):
  Calls prog 17 #[.string ⟨s.toArray⟩,.string ⟨d.toArray⟩,.string ⟨x.toArray⟩] w (Qz (C5 s d) x w):=by
 have Hbo:=Aa (fun W=>Qd5 s d W hs hd)
 have HGo:=Aa (fun S k (h:C5 s d=some (S,k))=>P1 h)
 generalize C5 s d=o at *
 go_enter func17,ntmps17
 go_wp2_with fail
 obtain⟨W1,hW1⟩:∃W1,W1=(w.alloc (.cells #[.string ⟨#[]⟩,.string ⟨#[]⟩,.string ⟨#[]⟩] 39)).alloc (.cells #[.int .u8 0,.string ⟨#[]⟩,.int .i64 0,.slice none 0 0] 42):=⟨_,rfl⟩
 rw[<-hW1]
 have hz1:W1.heap.size=w.heap.size+2:=by rw[hW1];simp
 have B1:=Aa (show Below w.heap.size w W1 by rw[hW1];exact((As _ _).alloc (Ap _) _).alloc (by simp) _)
 have TK1:=Aa (show W1.there w.heap.size 0 3 by rw[hW1];exact World.there_alloc (Cw w [.string ⟨#[]⟩,.string ⟨#[]⟩,.string ⟨#[]⟩] 39) _)
 have TV1:=Aa (show W1.there (w.heap.size+1) 0 4 by rw[hW1];have:=Cw (w.alloc (.cells #[.string ⟨#[]⟩,.string ⟨#[]⟩,.string ⟨#[]⟩] 39)) [.int .u8 0,.string ⟨#[]⟩,.int .i64 0,.slice none 0 0] 42;simpa using this)
 clear hW1
 refine(Hbo.o W1).mono ?_
 rintro e W2 ⟨hcase,hb2⟩
 have hz2:=hb2.size
 have TK2:=Aa (At TK1.o (by omega) hb2)
 have TV2:=Aa (At TV1.o (by omega) hb2)
 have B2:=Aa (B1.o.trans (hb2.mono (by omega)))
 clear hb2
 cases o with
 |none=>
  obtain⟨p,a,b,c,rfl⟩:=hcase
  obtain⟨W3,hW3⟩:∃W3,W3=W2.alloc (.cells #[.string a,.string b,.string c] 39):=⟨_,rfl⟩
  have hb3:Below W2.heap.size W2 W3:=by rw[hW3];exact(As _ _).alloc (Ap _) _
  have TK3:=Aa (At TK2.o (by omega) hb3)
  have TV3:=Aa (At TV2.o (by omega) hb3)
  have B3:=Aa (B2.o.trans (hb3.mono B2.o.size))
  have HW3:=Aa hW3
  clear hb3 hW3
  go_wp2_with (first|((with_reducible refine Ad (op:=⟨none,.store 39 _ _,_,_,_,none⟩) rfl 39 _ _ rfl w.heap.size 0 [.string ⟨#[]⟩,.string ⟨#[]⟩,.string ⟨#[]⟩] ?_ ?_ ?_ ?_ ?_ ?_);rfl;rfl;(rw[<-HW3.o];exact TK3.o);kernel_rfl;(simp[Value.oneCell']);intro w8 HS8)|((with_reducible refine Ad (op:=⟨none,.store 42 _ _,_,_,_,none⟩) rfl 42 _ _ rfl (w.heap.size+1) 0 [.int .u8 0,.string ⟨#[]⟩,.int .i64 0,.slice none 0 0] ?_ ?_ ?_ ?_ ?_ ?_);rfl;rfl;(rw[HS8.o,<-HW3.o];exact World.there_setCells TV3.o _ _ _);kernel_rfl;(simp[Value.oneCell']);intro w9 HS9))
  rw[<-HW3.o]at HS8
  have TV8:=Aa (show w8.there (w.heap.size+1) 0 4 by rw[HS8.o];exact World.there_setCells TV3.o _ _ _)
  have RK8:=Aa (show w8.rangeAt w.heap.size 0 [.string ⟨#[]⟩,.string ⟨#[]⟩,.string ⟨#[]⟩]by rw[HS8.o];exact World.rangeAt_setCells_same _ _ _ _ TK3.o)
  have B8:=Aa (show Below w.heap.size w w8 by rw[HS8.o];exact Ah _ (Ap _) _ _ _ B3.o)
  have RK9:=(by rw[HS9.o];exact World.rangeAt_setCells_apart RK8.o _ _ _ (.inl (by omega)):w9.rangeAt w.heap.size 0 [.string ⟨#[]⟩,.string ⟨#[]⟩,.string ⟨#[]⟩])
  have RV9:=(by rw[HS9.o];exact World.rangeAt_setCells_same _ _ _ _ TV8.o:w9.rangeAt (w.heap.size+1) 0 [.int .u8 0,.string ⟨#[]⟩,.int .i64 0,.slice none 0 0])
  refine bodyPost_ret (v:=.tuple #[.pointer none,.agg ([.string ⟨#[]⟩,.string ⟨#[]⟩,.string ⟨#[]⟩]:List Value).toArray,.agg ([.int .u8 0,.string ⟨#[]⟩,.int .i64 0,.slice none 0 0]:List Value).toArray,.bool false]) ?_ rfl ?_
  ·exact Pf results17 _ _ w.heap.size (w.heap.size+1) _ _ _ _ _ _ rfl rfl rfl rfl RK9 RV9 underlying39 rfl (by kernel_rfl) underlying42 rfl (by kernel_rfl)
  exact Qz.no (v:=Fi) (sl:=.slice none 0 0) rfl rfl (D8.nil _ _) (by rw[HS9.o];exact Ah _ (by omega) _ _ _ B8.o)
 |some y=>
  obtain⟨S,k⟩:=y
  obtain⟨p,xs,rfl,rfl,hsl⟩:=hcase
  obtain⟨g1,_,_,g4,_,g6⟩:=HGo.o _ k rfl
  have Hsl:=Aa (show T0 (w.heap.size+2) W2 p xs from by rw[<-hz1];exact hsl)
  obtain⟨pb,_,_,_,rfl,_⟩:=hsl
  have Hrd:=Aa (fun W (h:Qn W (.pointer (some ⟨pb,0,none⟩)) xs)=>Qd4 (.pointer (some ⟨pb,0,none⟩)) xs g1 k g4 g6 x W h hx)
  have HV:=Aa (show Tc (some (Ag xs,k)) x=Jr (Ag xs) k x from rfl)
  generalize Jr (Ag xs) k x=o at *
  clear g1 g4 g6 HGo Hbo
  obtain⟨W3,hW3⟩:∃W3,W3=W2.alloc (.cells #[.string ⟨k.signs.toArray⟩,.string ⟨k.base.toArray⟩,.string ⟨k.name.toArray⟩] 39):=⟨_,rfl⟩
  have hb3:Below W2.heap.size W2 W3:=by rw[hW3];exact(As _ _).alloc (Ap _) _
  have TK3:=Aa (At TK2.o (by omega) hb3)
  have TV3:=Aa (At TV2.o (by omega) hb3)
  have B3:=Aa (B2.o.trans (hb3.mono B2.o.size))
  have SL3:=Aa (Hsl.o.below hb3)
  have RS3:=Aa (show W3.rangeAt W2.heap.size 0 [.string ⟨k.signs.toArray⟩,.string ⟨k.base.toArray⟩,.string ⟨k.name.toArray⟩]by rw[hW3];exact Ck W2 [.string ⟨k.signs.toArray⟩,.string ⟨k.base.toArray⟩,.string ⟨k.name.toArray⟩] 39)
  have hz3:W3.heap.size=W2.heap.size+1:=by rw[hW3];simp
  have HW3:=Aa hW3
  clear hb3 hW3
  unfold Fv at Hrd ⊢
  go_wp2_with fail
  rw[<-HW3.o]
  refine(Hrd.o W3 SL3.o.isc).mono ?_
  rintro e W4 ⟨⟨vl,sl,rfl,hs4,hx4⟩,hb4⟩
  obtain⟨A4,c4,rfl⟩:=hs4.form
  have hz4:=hb4.size
  have Hx4:=Aa hx4
  obtain⟨W5,hW5⟩:∃W5,W5=W4.alloc (.cells #[.int .u8 (vl.what.toNat:Int),.string ⟨vl.text.toArray⟩,.int .i64 (vl.tag:Int),.slice A4 vl.kids.length c4] 42):=⟨_,rfl⟩
  have hb45:Below W4.heap.size W4 W5:=by rw[hW5];exact(As _ _).alloc (Ap _) _
  have hb5:Below W3.heap.size W3 W5:=hb4.trans (hb45.mono hb4.size)
  have TK5:=Aa (At TK3.o (by omega) hb5)
  have TV5:=Aa (At TV3.o (by omega) hb5)
  have B5:=Aa (B3.o.trans (hb5.mono B3.o.size))
  have SL5:=Aa (SL3.o.below hb5)
  have RS5:=Aa (Ar RS3.o (by omega) hb5)
  have RV5:=Aa (show W5.rangeAt W4.heap.size 0 (Jk (vl,.slice A4 vl.kids.length c4))by rw[hW5];exact Ck W4 (Jk (vl,.slice A4 vl.kids.length c4)) 42)
  have HS5:=Aa ((hs4.after hb45).mono (Q:=fun c=>w.heap.size+2<=c) fun c hc _=>by have:W3.heap.size<=c:=hc;omega)
  have HW5:=Aa hW5
  have hz5:W4.heap.size<W5.heap.size:=by rw[hW5];simp
  clear hW5 hb45 hb5 hb4 hs4 hx4 Hrd
  unfold G1
  go_upto_region 5 with fail
  rw[<-HW5.o]
  refine P3 [32,33,34,35,6,999,998,9]
   (fun ix v W=>match ix with|0=>v=.pointer (some ⟨pb,0,none⟩)|1=>v=.agg #[.string ⟨k.signs.toArray⟩,.string ⟨k.base.toArray⟩,.string ⟨k.name.toArray⟩]|2=>v=.agg #[.int .u8 (vl.what.toNat:Int),.string ⟨vl.text.toArray⟩,.int .i64 (vl.tag:Int),.slice A4 vl.kids.length c4]|3=>v=.bool o.isSome|4=>v=.pointer (some ⟨pb,0,none⟩)|7=>v=.bool o.isSome|_=>True)
   (fun L U W=>Below w.heap.size w W/\W.there w.heap.size 0 3/\W.there (w.heap.size+1) 0 4/\W.rangeAt W2.heap.size 0 [.string ⟨k.signs.toArray⟩,.string ⟨k.base.toArray⟩,.string ⟨k.name.toArray⟩]/\W.rangeAt W4.heap.size 0 (Jk (vl,.slice A4 vl.kids.length c4))/\T0 (w.heap.size+2) W (.pointer (some ⟨pb,0,none⟩)) xs/\D8 (fun c=>w.heap.size+2<=c) W (.slice A4 vl.kids.length c4) vl.kids/\(L 5=true->W.rangeAt w.heap.size 0 [.string ⟨k.signs.toArray⟩,.string ⟨k.base.toArray⟩,.string ⟨k.name.toArray⟩])/\(L 6=true->W.rangeAt (w.heap.size+1) 0 (Jk (vl,.slice A4 vl.kids.length c4)))) (⟨B5.o.drew,by simpa using TK5.o,by simpa using TV5.o,by simpa using RS5.o,by simpa using RV5.o,SL5.o.below ((As _ _).drew),HS5.o.after ((As _ _).drew),fun h=>Bool.noConfusion h,fun h=>Bool.noConfusion h⟩) ?_ ?_
  ·repeat (first|exact Aq.nil|(refine Aq.cons ?_ ?_;rotate_left))
   all_goals
    rintro L U W hL hpre HR Hdep K hK
    obtain⟨r1,r2,r3,r4,r5,r6,r7,r8,r9⟩:=HR.o
    have c0:W.cell? ⟨W2.heap.size,0,none⟩=some (.string ⟨k.signs.toArray⟩):=by simpa using Ac r4 0 rfl
    have c1:W.cell? ⟨W2.heap.size,1,none⟩=some (.string ⟨k.base.toArray⟩):=by simpa using Ac r4 1 rfl
    have c2:W.cell? ⟨W2.heap.size,2,none⟩=some (.string ⟨k.name.toArray⟩):=by simpa using Ac r4 2 rfl
    have d0:W.cell? ⟨W4.heap.size,0,none⟩=some (.int .u8 (vl.what.toNat:Int)):=by simpa using Ac r5 0 rfl
    have d1:W.cell? ⟨W4.heap.size,1,none⟩=some (.string ⟨vl.text.toArray⟩):=by simpa using Ac r5 1 rfl
    have d2:W.cell? ⟨W4.heap.size,2,none⟩=some (.int .i64 (vl.tag:Int)):=by simpa using Ac r5 2 rfl
    have d3:W.cell? ⟨W4.heap.size,3,none⟩=some (.slice A4 vl.kids.length c4):=by simpa using Ac r5 3 rfl
    first|(simp[Region.binds]at hpre;done)|simp[Region.binds]at hpre|clear hpre
   iterate 5
    ·go_simp
     first|exact hK _ _ _ rfl Ab HR.o rfl|exact kE hK HR.o|exact hK undef _ _ Ab Ab HR.o (by simp[Act.put,hpre])|exact hK _ _ _ Ab Ab HR.o rfl|exact kE hK HR.o
   ·have u1:U 1=.agg #[.string ⟨k.signs.toArray⟩,.string ⟨k.base.toArray⟩,.string ⟨k.name.toArray⟩]:=by first|exact hpre.2|exact hpre.1.2|exact hpre.2.2|exact hpre.2.1.2|exact hpre.1.1.2
    rw[if_pos (by rfl)]
    refine wp_store_mid 39 _ _ rfl w.heap.size 0 ([.string ⟨k.signs.toArray⟩,.string ⟨k.base.toArray⟩,.string ⟨k.name.toArray⟩]:List Value).toArray rfl u1 r2 (by kernel_rfl) (by simp[Value.oneCell']) ?_
    exact hK undef _ _ Ab Ab ⟨Ah _ (Ap _) _ _ _ r1,World.there_setCells r2 _ _ _,World.there_setCells r3 _ _ _,World.rangeAt_setCells_apart r4 _ _ _ (.inl (by omega)),World.rangeAt_setCells_apart r5 _ _ _ (.inl (by omega)),r6.far (D3 _ _ _ W) (by omega),r7.grown (D3 _ _ _ W) (fun b hb e=>by injection e with e;have:w.heap.size+2<=b:=hb;omega),fun _=>World.rangeAt_setCells_same _ _ _ _ r2,fun h=>World.rangeAt_setCells_apart (r9 h) _ _ _ (.inl (by omega))⟩ rfl
   ·have u1:U 2=.agg #[.int .u8 (vl.what.toNat:Int),.string ⟨vl.text.toArray⟩,.int .i64 (vl.tag:Int),.slice A4 vl.kids.length c4]:=by first|exact hpre.2|exact hpre.1.2|exact hpre.2.2|exact hpre.2.1.2|exact hpre.1.1.2
    rw[if_pos (by rfl)]
    refine wp_store_mid 42 _ _ rfl (w.heap.size+1) 0 (Jk (vl,.slice A4 vl.kids.length c4)).toArray rfl u1 r3 (by kernel_rfl) (by simp[Jk,Value.oneCell']) ?_
    exact hK undef _ _ Ab Ab ⟨Ah _ (by omega) _ _ _ r1,World.there_setCells r2 _ _ _,World.there_setCells r3 _ _ _,World.rangeAt_setCells_apart r4 _ _ _ (.inl (by omega)),World.rangeAt_setCells_apart r5 _ _ _ (.inl (by omega)),r6.far (D3 _ _ _ W) (by omega),r7.grown (D3 _ _ _ W) (fun b hb e=>by injection e with e;have:w.heap.size+2<=b:=hb;omega),fun h=>World.rangeAt_setCells_apart (r8 h) _ _ _ (.inl (by omega)),fun _=>World.rangeAt_setCells_same _ _ _ _ r3⟩ rfl
   ·go_simp
    first|exact hK _ _ _ rfl Ab HR.o rfl|exact kE hK HR.o|exact hK undef _ _ Ab Ab HR.o (by simp[Act.put,hpre])|exact hK _ _ _ Ab Ab HR.o rfl|exact kE hK HR.o
  rintro L U W hL hφ hR
  have e4:U 4=.pointer (some ⟨pb,0,none⟩):=hφ 4 (by decide)
  have e7:U 7=.bool o.isSome:=hφ 7 (by decide)
  simp only[e4,e7]
  clear hφ
  obtain⟨r1,r2,r3,r4,r5,r6,r7,r8,r9⟩:=hR
  have R1:=Aa r1
  have R6:=Aa r6
  have R7:=Aa r7
  have R8:=Aa (r8 (hL 5 (by decide)))
  have R9:=Aa (r9 (hL 6 (by decide)))
  clear hL r1 r2 r3 r4 r5 r6 r7 r8 r9
  go_wp2_with fail
  refine bodyPost_ret (v:=.tuple #[.pointer (some ⟨pb,0,none⟩),.agg ([.string ⟨k.signs.toArray⟩,.string ⟨k.base.toArray⟩,.string ⟨k.name.toArray⟩]:List Value).toArray,.agg (Jk (vl,.slice A4 vl.kids.length c4)).toArray,.bool o.isSome]) ?_ rfl ?_
  ·exact Pf results17 _ _ w.heap.size (w.heap.size+1) _ _ _ _ _ _ rfl rfl rfl rfl R8.o R9.o underlying39 rfl (by kernel_rfl) underlying42 rfl (by kernel_rfl)
  refine⟨⟨_,_,_,_,vl,_,by rw[HV.o];rfl,R7.o.mono (fun c hc _=>by have:w.heap.size+2<=c:=hc;omega),fun y hy=>?_⟩,R1.o⟩
  rw[HV.o]at hy
  exact⟨Hx4.o y hy,_,k,xs,rfl,rfl,rfl,rfl,rfl,R6.o.low (by omega)⟩
end
end Go.Proofs.YtkigmebejmmikaaGreatDoor
