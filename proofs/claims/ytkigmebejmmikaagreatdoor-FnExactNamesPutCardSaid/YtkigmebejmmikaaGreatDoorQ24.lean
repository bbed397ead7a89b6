/- Texts joined. Conditions: as each theorem names them. -/
import Derived.Test.YtkigmebejmmikaaGreatDoorQ11
import Derived.Test.YtkigmebejmmikaaGreatDoorQ23
set_option maxRecDepth 100000
set_option maxHeartbeats 32000000
set_option linter.unusedVariables false
set_option linter.unusedSimpArgs false
namespace Go.Proofs.YtkigmebejmmikaaGreatDoor
open Go.RowKit Go.Proofs.Tryz
section
attribute [local go_sem] Qja Qit Qib Qgw ByteArray.mk_append_mk
def IvC(w0:World)(b:Nat)(p:Value)(S:List Ty)(N:Nat)(k:Kd):Prop:=
 ∀(t:List UInt8) (bad:Bool) (w:World),Below w0.heap.size w0 w->Fs w b p t bad->t.length<=900->(bad=false->t.length<N) ->
  Calls prog 57 #[.pointer (some ⟨b,0,none⟩),Fv k] w (J2 w b p t N (if bad then none else Ai S 1000 N k t))
theorem D8.one{P Q:Nat->Prop}{w:World}{v:Vl}{sl:Value}{T:TypeId}(h:D8 P w sl v.kids)(hQ:∀b,P b->b<w.heap.size->Q b)(hn:Q w.heap.size):
  D8 Q (w.alloc (.cells #[.int .u8 (v.what.toNat:Int),.string ⟨v.text.toArray⟩,.int .i64 (v.tag:Int),sl] T)) (.slice (some ⟨w.heap.size,0,none⟩) 1 1) [v]:=by
 have hb:Below w.heap.size w (w.alloc (.cells #[.int .u8 (v.what.toNat:Int),.string ⟨v.text.toArray⟩,.int .i64 (v.tag:Int),sl] T)):=(As _ _).alloc (Ap _) _
 refine .mk (some ⟨w.heap.size,0,none⟩) 1 [(v,sl)] rfl rfl (by simp) ⟨rfl,(show 4<=maxLen by decide),fun _=>⟨w.heap.size,0,rfl,by simp,fun j u hj=>?_⟩⟩ (fun g o _ e=>by injection e with e;injection e with e;subst e;exact hn) (fun x hx=>?_)
 ·rw[World.cell?_alloc_new];simpa [Jk]using hj
 rw[List.mem_singleton]at hx;subst hx;exact(h.mono hQ).after hb
theorem Ea(c:UInt8)(t:List UInt8)(bad:Bool):((Ax [c] t bad).getD t).length<=t.length:=by rw[B6];cases bad;exact Nz;exact Ap _
theorem Jh{c:UInt8}{t r:List UInt8}{bad:Bool}(h:Ax [c] t bad=some r):r.length+1=t.length:=by
 rw[B6]at h
 cases bad with
 |true=>cases h
 |false=>rw[if_neg (by decide),B9]at h;subst h;rfl
theorem Qa1(w0:World)(b N:Nat)(p:Value)(S:List Ty)(t:List UInt8)(k:Kd)(w:World)(hw:Below w0.heap.size w0 w)(hb:w0.heap.size<=b)(h:Fs w b p t false)(hl:t.length<=900)(hN:t.length<=N)(hN2:N<=2000)(sg:List UInt8)(hs:k.signs=63::sg)(hsl:sg.length<=100)
  (H:IvC w0 b p S N k.part) (q:Option (Vl × List UInt8)) (hq:q=Qau (Ai S 1000 N k.part) t):
  Calls prog 57 #[.pointer (some ⟨b,0,none⟩),Fv k] w (J2 w b p t (N+1) q):=by
 have HQ:=Aa hq
 have HH:=Aa H
 have HP:=Aa (fun W=>N4 k W 63 sg hs (by omega))
 have HS:=Aa h
 have HW:=Aa hw
 have hb0:=h.1
 have hbn:¬(b=w.heap.size):=by omega
 have hbn2:¬(b=w.heap.size+1):=by omega
 have c2:=h.2.2.2.2
 have hm:=Ea 43 t false
 have Hlt:=Aa (fun r (h:Ax [43] t false=some r)=>Jh h)
 have Hlt2:=Aa (fun r (h:Ax [45] t false=some r)=>Jh h)
 have Htk:=Aa (fun W (h:Fs W b p t false)=>Jb b p t [45] false W h (by omega))
 have Hwt:=Aa (fun W (h:Fs W b p t false)=>C0 b p t [43] false W h (by omega))
 have HQ2:=Aa (show Qau (Ai S 1000 N k.part) t=(match Ax [45] t false with|some q=>some (.mk 63 [] 0 [],q)|none=>match Ax [43] t false with|none=>none|some r=>match Ai S 1000 N k.part r with|some (v,q)=>some (.mk 63 [] 0 [v],q)|none=>none)from by
  rw[B6,B6];rfl)
 generalize Qau (Ai S 1000 N k.part) t=q0 at *
 have Hkp:=Aa (rfl:Fv k=Fv k)
 obtain⟨sg',bs,nm⟩:=k
 simp only at hs
 subst hs
 generalize hkp:(⟨63::sg,bs,nm⟩:Kd).part=kp at *
 unfold Fv at HP ⊢
 simp only at HP ⊢
 clear h hq hw H Hkp hkp
 rcases hy:Ax [45] t false with _|r
 ·rw[hy]at Htk HQ2
  obtain⟨t1,ht1⟩:∃t1,t1=(Ax [43] t false).getD t:=⟨_,rfl⟩
  obtain⟨b1,hb1⟩:∃b1,b1=(Ax [43] t false).isNone:=⟨_,rfl⟩
  have HQ3:=Aa (show q=if b1 then none else match Ai S 1000 N kp t1 with|some (v,q)=>some (.mk 63 [] 0 [v],q)|none=>none from by
   rw[HQ.o,HQ2.o,ht1,hb1];cases Ax [43] t false<;>rfl)
  have HL1:=Aa (show b1=false->t1.length<N from by
   intro h
   rw[hb1]at h
   cases hr:Ax [43] t false with
   |none=>rw[hr]at h;cases h
   |some r=>have:=Hlt.o r hr;rw[ht1,hr];simp;omega)
  rw[<-ht1]at hm
  rw[<-ht1,<-hb1]at Hwt
  clear hy ht1 hb1 HQ2 HQ
  go_enter func57,ntmps57
  go_wp2_with fail
  refine(Fm 63 sg (by omega) _ _ _).mono ?_
  rintro e w2 ⟨rfl,hb2⟩
  have F2:=Aa ((J3.init (k:=⟨63::sg,bs,nm⟩) HS.o).post hb2)
  clear hb2 c2
  go_wp2_with fail
  refine(Htk.o _ F2.o.1.1).mono ?_
  rintro e w3 ⟨rfl,hs3⟩
  simp only[Option.getD_none]at hs3
  have F3:=Aa (F2.o.step hb0 hs3)
  clear hs3
  go_wp2_with fail
  refine(Hwt.o _ F3.o.1.1).mono ?_
  rintro e w4 ⟨rfl,hs4⟩
  have F4:=Aa (F3.o.step hb0 hs4)
  clear hs4
  have k0:=Ac F4.o.2.1 0 rfl
  have k1:=Ac F4.o.2.1 1 rfl
  have k2:=Ac F4.o.2.1 2 rfl
  simp only[Nat.zero_add]at k0 k1 k2
  go_wp2_with fail
  refine(HP.o _).mono ?_
  rintro e w5 ⟨rfl,hb5⟩
  have F5:=Aa (F4.o.post hb5)
  clear hb5 k0 k1 k2
  go_wp2_with fail
  refine(HH.o t1 b1 _ (F5.o.1.env HW.o hb) F5.o.1.1 (by omega) HL1.o).mono ?_
  rintro e w6 ⟨v,sl,t',rfl,hk,hs6,hx,hB,hl6,hn6⟩
  obtain⟨A7,c7,rfl⟩:=hk.form
  have F6:=Aa (F5.o.step hb0 hs6)
  have hz5:=F5.o.2.2.2
  have Hk:=Aa hk
  have Hx:=Aa hx
  have HB:=Aa hB
  clear hs6 hk hx hB
  unfold G1
  have F7:=Aa (fun o=>F6.o.post ((As _ _).alloc (Ap _) o))
  go_wp2_with ((with_reducible refine Ad (op:=⟨none,.store 42 _ _,_,_,_,none⟩) rfl 42 _ _ rfl (w.heap.size+1) 0 [.int .u8 63,.string ⟨#[]⟩,.int .i64 0,.slice (some ⟨w6.heap.size,0,none⟩) 1 1] ?_ ?_ ?_ ?_ ?_ ?_);rfl;rfl;(exact(Aa (F7.o _)).o.2.2.1);kernel_rfl;(simp[Value.oneCell']);intro w9 HS9)
  have hz6:=F6.o.2.2.2
  have Z:=J3.fin (t:=t) (N:=N+1) (v:=.mk 63 [] 0 [v]) (sl:=.slice (some ⟨w6.heap.size,0,none⟩) 1 1) (r:=q) (F7.o _) hb0 HS9.o (Hk.o.one (fun c hc _=>by omega) (by omega))
   (by rw[HQ3.o];cases b1 with
    |true=>rfl
    |false=>simp only[Bool.false_eq_true,if_false];cases Ai S 1000 N kp t1 with
     |none=>rfl
     |some y=>rfl)
   (by rw[HQ3.o];cases b1 with
    |true=>simp
    |false=>
     simp only[Bool.false_eq_true,if_false]
     have hx2:=Hx.o
     simp only[Bool.false_eq_true,if_false]at hx2
     cases hr:Ai S 1000 N kp t1 with
     |none=>simp
     |some y=>obtain⟨e1,e2⟩:=hx2 y hr;rintro x hxx;injection hxx with hxx;subst hxx;exact⟨by rw[e1],e2⟩)
   (.mk (by decide) (by simp[Cu];omega) (by simp) (fun x hx=>by rw[List.mem_singleton]at hx;subst hx;exact HB.o)) (by omega) (by simp[Az,Dx,E8,Ak];omega)
  exact bodyPost_ret (v:=.agg (G6 (.mk 63 [] 0 [v]) (.slice (some ⟨w6.heap.size,0,none⟩) 1 1)).toArray) (Ay results57 _ _ (w.heap.size+1) _ _ rfl Z.2 underlying42 rfl (by kernel_rfl)) rfl Z.1
 rw[hy]at Htk HQ2
 have hlt:=Hlt2.o r hy
 clear hy
 go_enter func57,ntmps57
 go_wp2_with fail
 refine(Fm 63 sg (by omega) _ _ _).mono ?_
 rintro e w2 ⟨rfl,hb2⟩
 have F2:=Aa ((J3.init (k:=⟨63::sg,bs,nm⟩) HS.o).post hb2)
 clear hb2 c2
 go_wp2_with fail
 refine(Htk.o _ F2.o.1.1).mono ?_
 rintro e w3 ⟨rfl,hs3⟩
 simp only[Option.getD_some]at hs3
 have F3:=Aa (F2.o.step hb0 hs3)
 clear hs3
 go_wp2_with ((with_reducible refine Ad (op:=⟨none,.store 42 _ _,_,_,_,none⟩) rfl 42 _ _ rfl (w.heap.size+1) 0 [.int .u8 63,.string ⟨#[]⟩,.int .i64 0,.slice none 0 0] ?_ ?_ ?_ ?_ ?_ ?_);rfl;rfl;(exact F3.o.2.2.1);kernel_rfl;(simp[Value.oneCell']);intro w9 HS9)
 have HQ:=HQ.o
 rw[HQ2.o]at HQ
 have Z:=J3.fin (t:=t) (N:=N+1) (v:=.mk 63 [] 0 []) (sl:=.slice none 0 0) (r:=q) F3.o hb0 HS9.o (D8.nil _ _) (by rw[HQ];rfl)
  (by rw[HQ];simp) (El (by decide) (by decide)) (by omega) (by simp[Az,Dx,E8];omega)
 exact bodyPost_ret (v:=.agg (G6 (.mk 63 [] 0 []) (.slice none 0 0)).toArray) (Ay results57 _ _ (w.heap.size+1) _ _ rfl Z.2 underlying42 rfl (by kernel_rfl)) rfl Z.1
end
theorem Qck:(prog.info? 42).map (fun i=>(i.zero,i.size,i.bytes))=some (some (.agg #[.int .u8 0,.string ⟨#[]⟩,.int .i64 0,.slice none 0 0]),4,56):=by kernel_rfl
structure Tt(base B:Nat)(W:World)(h0 h1 h2 u rv:Value)(xs:List (Vl × Value)):Prop where
 lt:B<W.heap.size
 bs:base<=W.heap.size
 hB:B<base
 bk:Py W B
 c0:W.cell? ⟨B,0,none⟩=some h0
 c1:W.cell? ⟨B,1,none⟩=some h1
 c2:W.cell? ⟨B,2,none⟩=some h2
 c3:W.cell? ⟨B,3,none⟩=some u
 row:W.ownsRow base 42 4 rv xs.length (xs.flatMap Jk)
 kids:∀x∈xs,D8 (fun c=>base<=c/\rv.ownBlock≠some c) W x.2 x.1.kids
theorem Tt.after{base B:Nat}{W W':World}{h0 h1 h2 u rv:Value}{xs:List (Vl × Value)}(h:Tt base B W h0 h1 h2 u rv xs)(hb:Below W.heap.size W W'):Tt base B W' h0 h1 h2 u rv xs:=by
 obtain⟨hc,_,hz⟩:=Bw hb
 exact⟨hz _ h.lt,Nat.le_trans h.bs hb.size,h.hB,h.bk.belowAt h.lt hb,(hc _ _ h.lt).trans h.c0,(hc _ _ h.lt).trans h.c1,(hc _ _ h.lt).trans h.c2,(hc _ _ h.lt).trans h.c3,Bf h.row hb,fun x hx=>(h.kids x hx).after hb⟩
theorem Tt.step{base B b:Nat}{W W':World}{h0 h1 h2 u rv:Value}{xs:List (Vl × Value)}(h:Tt base B W h0 h1 h2 u rv xs)(hg:W.grownBy W' (some b))(hb:b<base)(hne:b≠B):Tt base B W' h0 h1 h2 u rv xs:=by
 have hn:some B≠some b:=fun e=>by injection e with e;omega
 exact⟨Nat.lt_of_lt_of_le h.lt hg.size,Nat.le_trans h.bs hg.size,h.hB,h.bk.grown h.lt hg hn,hg.cell h.c0 hn,hg.cell h.c1 hn,hg.cell h.c2 hn,hg.cell h.c3 hn,
  h.row.kept hg (by
   cases hr:rv.ownBlock with
   |none=>cases rv with
    |slice A a b=>cases A with
     |none=>exact .inl rfl
     |some x=>simp[Value.ownBlock]at hr
    |_=>exact .inl rfl
   |some k=>have:=(h.row.lt k hr).1;exact .inr (by intro e;injection e with e;omega)),
  fun x hx=>(h.kids x hx).grown hg fun c hc e=>by injection e with e;omega⟩
theorem Tt.store{base B:Nat}{W:World}{h0 h1 h2 u rv:Value}{xs:List (Vl × Value)}(h:Tt base B W h0 h1 h2 u rv xs):Tt base B (W.setCell ⟨B,3,none⟩ rv) h0 h1 h2 rv rv xs:=by
 have hg:=Bc W B 3 rv
 have hf:=h.bk.live 3
 refine⟨by simpa using h.lt,by simpa using h.bs,h.hB,h.bk.set _,by simp[go_sem,h.c0],by simp[go_sem,h.c1],by simp[go_sem,h.c2],by simp[go_sem,h.c3,hf],h.row.kept hg ?_,fun x hx=>(h.kids x hx).grown hg fun c hc e=>by injection e with e;have:=h.hB;omega⟩
 cases hr:rv.ownBlock with
 |none=>cases rv with
  |slice A a b=>cases A with
   |none=>exact .inl rfl
   |some x=>simp[Value.ownBlock]at hr
  |_=>exact .inl rfl
 |some k=>have:=(h.row.lt k hr).1;have:=h.hB;exact .inr (by intro e;injection e with e;omega)
theorem Tt.app{base B:Nat}{W W':World}{h0 h1 h2 u rv rv':Value}{xs:List (Vl × Value)}{x:Vl × Value}(h:Tt base B W h0 h1 h2 u rv xs)(hx:D8 (fun c=>base<=c/\rv.ownBlock≠some c) W x.2 x.1.kids)
  (hown:W'.ownsRow base 42 4 rv' (xs.length+1) (xs.flatMap Jk++Jk x)) (hg:W.grownBy W' rv.ownBlock) (hwh:rv'.ownBlock=rv.ownBlock\/∃k,rv'.ownBlock=some k/\W.heap.size<=k):Tt base B W' h0 h1 h2 u rv' (xs++[x]):=by
 have hn:some B≠rv.ownBlock:=fun e=>by have:=(h.row.lt B e.symm).1;have:=h.hB;omega
 refine⟨Nat.lt_of_lt_of_le h.lt hg.size,Nat.le_trans h.bs hg.size,h.hB,h.bk.grown h.lt hg hn,hg.cell h.c0 hn,hg.cell h.c1 hn,hg.cell h.c2 hn,hg.cell h.c3 hn,by simpa using hown,fun y hy=>?_⟩
 have hy':D8 (fun c=>base<=c/\rv.ownBlock≠some c) W y.2 y.1.kids:=by
  rcases List.mem_append.1 hy with hy|hy
  ·exact h.kids y hy
  rw[List.mem_singleton]at hy;subst hy;exact hx
 refine hy'.kept (fun b o v hb _ hv=>hg.cell hv fun e=>hb.2 e.symm) hg.size fun c hc hl=>⟨hc.1,?_⟩
 rcases hwh with e|⟨k,e,hk⟩
 ·rw[e];exact hc.2
 rw[e];intro e;injection e with e;omega
theorem Tt.done{base B:Nat}{W:World}{h0 h1 h2 u rv:Value}{xs:List (Vl × Value)}(h:Tt base B W h0 h1 h2 u rv xs)(hl:xs.length<=1000):D8 (fun c=>base<=c) W rv (Av xs):=by
 rcases h.row.2 with⟨rfl,h0⟩|⟨g,cap,cur,rfl,hbg,hh,hnc,hcm,hcs,htk⟩
 ·obtain rfl:xs=[]:=List.eq_nil_of_length_eq_zero h0
  exact D8.nil _ _
 refine .mk (some ⟨g,0,none⟩) cap xs rfl rfl hl ⟨Ji Ys xs,by unfold maxLen;omega,fun hn=>⟨g,0,rfl,(h.row.lt g rfl).2,fun j u hu=>?_⟩⟩ (fun g' o _ e=>by injection e with e;injection e with e;subst e;exact hbg) fun x hx=>(h.kids x hx).mono fun c hc _=>hc.1
 have:=h.row.cells (g:=g) rfl j u hu
 have e1:(⟨g,0,none⟩:Addr).add j=⟨g,0+j,none⟩:=by unfold Addr.add;split<;>simp_all
 rwa [e1]at this
theorem Kj{w:World}{base k n m c:Nat}{e:TypeId}{A:Option Addr}{xs:List Value}(h:w.ownsRow base e k (.slice A m c) n xs):m=n:=by
 rcases h.2 with⟨e,h0⟩|⟨g,cap,cur,e,_⟩
 ·injection e with _ e1 e2;omega
 injection e with _ e1 e2
theorem J3.app{w W W':World}{b:Nat}{p:Value}{k:Kd}{t:List UInt8}{bad:Bool}{row:Option Nat}(h:J3 w b p k t bad W)(hb:b<w.heap.size)(hg:W.grownBy W' row)(hr:∀k,row=some k->w.heap.size+2<=k):J3 w b p k t bad W':=by
 have hn:∀c,c<w.heap.size+2->some c≠row:=fun c hc e=>by have:=hr c e.symm;omega
 obtain⟨⟨⟨h0,h1,h2,h3,h4⟩,hg0⟩,k1,k2,k3⟩:=h
 exact⟨⟨⟨Nat.lt_of_lt_of_le h0 hg.size,h1.grown h0 hg (hn b (by omega)),hg.cell h2 (hn b (by omega)),hg.cell h3 (hn b (by omega)),hg.cell h4 (hn b (by omega))⟩,⟨hg.os.trans hg0.os,hg.tape.trans hg0.tape,hg.output.trans hg0.output,Nat.le_trans hg0.size hg.size,fun k hk hne=>(hg.block k (Nat.lt_of_lt_of_le hk hg0.size) (hn k (by omega))).trans (hg0.block k hk hne)⟩⟩,
  Fz k1 hg (hn _ (by omega)),Gq k2 hg k3 (hn _ (by omega)),Nat.lt_of_lt_of_le k3 hg.size⟩
theorem J3.put{w W:World}{b B o:Nat}{p:Value}{k:Kd}{t:List UInt8}{bad:Bool}(h:J3 w b p k t bad W)(hb:b<w.heap.size)(hB:w.heap.size+2<=B)(v:Value):J3 w b p k t bad (W.setCell ⟨B,o,none⟩ v):=
 h.app hb (Bc W B o v) fun k e=>by injection e with e;omega
theorem Qco(x:Vl × Value)(h:x.2.oneCell'=true):∀u∈Jk x,u.oneCell'=true:=by
 intro u hu
 simp[Jk]at hu
 rcases hu with rfl|rfl|rfl|rfl
 ·rfl
 ·rfl
 ·rfl
 exact h
def P2(vs:List Vl):Option (List Vl × List UInt8)->Option (List Vl × List UInt8)
 |some (us,z)=>some (vs++us,z)
 |none=>none
def LI(K:List UInt8->Option (Vl × List UInt8))(t1:List UInt8)(b1:Bool)(vs:List Vl)(tt:List UInt8):Prop:=
 (b1=true->vs=[])/\(b1=false->Cn K 1000 t1=P2 vs (Cn K (1000 - vs.length) tt))/\Cu (vs.map Az)+tt.length<=t1.length/\∀x∈vs,Bd x
def LE(K:List UInt8->Option (Vl × List UInt8))(t1:List UInt8)(b1:Bool)(vs:List Vl)(tt:List UInt8)(bb:Bool)(N:Nat):Prop:=
 (if b1 then none else Cn K 1000 t1)=(if bb then none else match Am 93 tt with|some z=>some (vs,z)|none=>none)/\Cu (vs.map Az)+tt.length<=t1.length+8*N+1/\∀x∈vs,Bd x
theorem LI.init(K:List UInt8->Option (Vl × List UInt8))(t1:List UInt8)(b1:Bool):LI K t1 b1 [] t1:=
 ⟨fun _=>rfl,fun _=>by cases h:Cn K 1000 t1<;>simp[P2,h],by simp[Cu],by simp⟩
theorem Kr(a b:List (List UInt8)):Cu (a++b)=Cu a+Cu b:=by simp[Cu]
theorem LI.len{K:List UInt8->Option (Vl × List UInt8)}{t1 tt:List UInt8}{b1:Bool}{vs:List Vl}(h:LI K t1 b1 vs tt):vs.length+tt.length<=t1.length:=by
 have h1:=Qcr (vs.map Az)
 have h2:=h.2.2.1
 simp at h1
 omega
theorem LI.step{K:List UInt8->Option (Vl × List UInt8)}{t1 tt t' t'':List UInt8}{vs:List Vl}{v:Vl}(h:LI K t1 false vs tt)(hK:K tt=some (v,t'))(hg:tt.length=(Az v).length+t'.length)(hc:Am 44 t'=some t'')(hB:Bd v)(hl:t1.length<=900):LI K t1 false (vs++[v]) t'':=by
 have hlen:=h.len
 obtain⟨_,h2,h3,h4⟩:=h
 have e:t'=44::t'':=B9.1 hc
 refine⟨fun h=>Bool.noConfusion h,fun _=>?_,?_,?_⟩
 ·rw[h2 rfl]
  obtain⟨m,hm⟩:∃m,1000 - vs.length=m+1:=⟨999 - vs.length,by omega⟩
  rw[hm,show 1000 - (vs++[v]).length=m by simp;omega]
  conv=>lhs;unfold Cn
  rw[hK]
  simp only[hc]
  cases Cn K m t''<;>simp[P2]
 ·rw[List.map_append,Kr]
  simp[Cv,Cu]at h3 ⊢
  rw[e]at hg
  simp at hg
  omega
 intro x hx
 rcases List.mem_append.1 hx with hx|hx
 ·exact h4 x hx
 rw[List.mem_singleton]at hx;subst hx;exact hB
theorem LI.brk{K:List UInt8->Option (Vl × List UInt8)}{t1 tt t':List UInt8}{vs:List Vl}{v:Vl}{N:Nat}(h:LI K t1 false vs tt)(hx:∀x,K tt=some x->v=x.1/\t'=x.2)(hc:Ax [44] t' (K tt).isNone=none)(hB:Bd v)(hl:t1.length<=900)
  (hn:(Az v).length+t'.length<=tt.length+8*N):LE K t1 false (vs++[v]) t' (K tt).isNone N:=by
 have hlen:=h.len
 obtain⟨_,h2,h3,h4⟩:=h
 refine⟨?_,?_,?_⟩
 ·rw[if_neg (by decide),h2 rfl]
  obtain⟨m,hm⟩:∃m,1000 - vs.length=m+1:=⟨999 - vs.length,by omega⟩
  rw[hm]
  unfold Cn
  cases hk:K tt with
  |none=>rfl
  |some y=>
   obtain⟨e1,e2⟩:=hx y hk
   obtain⟨y1,y2⟩:=y
   simp only at e1 e2
   subst e1 e2
   rw[hk,B6]at hc
   simp only[Option.isNone_some,Bool.false_eq_true,if_false]at hc ⊢
   rw[hc]
   simp only
   cases Am 93 t'<;>simp[P2]
 ·rw[List.map_append,Kr]
  simp[Cv,Cu]at h3 ⊢
  omega
 intro x hx
 rcases List.mem_append.1 hx with hx|hx
 ·exact h4 x hx
 rw[List.mem_singleton]at hx;subst hx;exact hB
theorem LI.bad{K:List UInt8->Option (Vl × List UInt8)}{t1 tt:List UInt8}{vs:List Vl}{N:Nat}(h:LI K t1 true vs tt):LE K t1 true vs tt true N:=⟨by simp,by have:=h.2.2.1;omega,h.2.2.2⟩
theorem LE.fin{K:List UInt8->Option (Vl × List UInt8)}{t t1 tt:List UInt8}{b1 bb:Bool}{vs:List Vl}{N:Nat}(h:LE K t1 b1 vs tt bb N)(h1:t1=(Ax [91] t false).getD t)(hb1:b1=(Ax [91] t false).isNone)(h2:Ax [93] t1 b1=none):
  Sa K 1000 t=if (Ax [93] tt bb).isNone || decide (20<vs.length)then none else some (.mk 91 [] 0 vs,(Ax [93] tt bb).getD tt):=by
 obtain⟨h3,_,_⟩:=h
 rw[B6]at h1 hb1 h2 ⊢
 simp only[Bool.false_eq_true,if_false]at h1 hb1
 unfold Sa
 cases hy:Am 91 t with
 |none=>
  rw[hy]at hb1
  simp only[Option.isNone_none]at hb1
  subst hb1
  simp only[if_true]at h3
  simp only
  cases bb with
  |true=>simp
  |false=>
   simp only[Bool.false_eq_true,if_false]at h3 ⊢
   cases hz:Am 93 tt with
   |none=>simp
   |some z=>rw[hz]at h3;cases h3
 |some r=>
  rw[hy]at h1 hb1
  simp only[Option.isNone_some,Option.getD_some]at h1 hb1
  subst h1 hb1
  simp only[Bool.false_eq_true,if_false]at h2 h3
  simp only
  rw[h2]
  simp only
  rw[h3]
  cases bb with
  |true=>simp
  |false=>
   simp only[Bool.false_eq_true,if_false]
   cases Am 93 tt with
   |none=>simp
   |some z=>
    simp only[Option.isNone_some,Bool.false_or,decide_eq_true_eq,Option.getD_some]
    by_cases h:vs.length<=20
    ·rw[if_pos h,if_neg (by omega)]
    rw[if_neg h,if_pos (by omega)]
section
attribute [local go_sem] Qja Qit Qib Qgw ByteArray.mk_append_mk
def Rd(tt:List UInt8)(N:Nat)(r:Option (Vl × List UInt8))(v:Vl)(t':List UInt8):Prop:=
 (∀x,r=some x->v=x.1/\t'=x.2)/\Bd v/\t'.length<=tt.length/\(Az v).length+t'.length<=tt.length+8*N
structure Qjh(w:World)(b B:Nat)(p:Value)(k:Kd)(h0 h1 h2 rv:Value)(xs:List (Vl × Value))(tt:List UInt8)(bb:Bool)(N:Nat)(r:Option (Vl × List UInt8))(c s a d:Bool)(uc us ua:Value)(W:World):Prop where
 r1:∃t2 bad2,J3 w b p k t2 bad2 W/\(c=false->t2=tt/\bad2=bb)
 r2:a=false->Tt (B+1) B W h0 h1 h2 rv rv xs
 r3:c=true->∃v sl t',uc=G1 v sl/\Rd tt N r v t'/\J3 w b p k t' r.isNone W/\(a=false->D8 (fun c=>B+1<=c/\rv.ownBlock≠some c) W sl v.kids) /\
  (s=true->a=false->∃W7,W=W7.alloc (.cells (Jk (v,sl)).toArray 42)/\us=.slice (some ⟨W7.heap.size,0,none⟩) 1 1/\Tt (B+1) B W7 h0 h1 h2 rv rv xs/\D8 (fun c=>B+1<=c/\rv.ownBlock≠some c) W7 sl v.kids/\J3 w b p k t' r.isNone W7) /\
  (a=true->d=false->∃A n c,ua=.slice A n c/\Tt (B+1) B W h0 h1 h2 rv ua (xs++[(v,sl)])) /\
  (d=true->∃A n c,ua=.slice A n c/\Tt (B+1) B W h0 h1 h2 ua ua (xs++[(v,sl)]))
theorem Qel(w0:World)(b N:Nat)(p:Value)(S:List Ty)(t:List UInt8)(k:Kd)(w:World)(hw:Below w0.heap.size w0 w)(hb:w0.heap.size<=b)(h:Fs w b p t false)(hl:t.length<=900)(hN:t.length<=N)(hN2:N<=2000)
  (H:IvC w0 b p S N k) (HG:∀s v r,Ai S 1000 N k s=some (v,r)->s=Az v++r) (q:Option (Vl × List UInt8)) (hq:q=Sa (Ai S 1000 N k) 1000 t):
  Calls prog 97 #[.pointer (some ⟨b,0,none⟩),Fv k] w (J2 w b p t (N+1) q):=by
 have HQ:=Aa hq
 have HH:=Aa H
 have HG:=Aa HG
 have HS:=Aa h
 have HW:=Aa hw
 have hb0:=h.1
 have hbn:¬(b=w.heap.size):=by omega
 have hbn2:¬(b=w.heap.size+1):=by omega
 have hbn3:¬(b=w.heap.size+2):=by omega
 have hm:=Ea 91 t false
 have Hwt:=Aa (fun W (h:Fs W b p t false)=>C0 b p t [91] false W h (by omega))
 have Hlt0:=Aa (fun r (h:Ax [91] t false=some r)=>Jh h)
 obtain⟨t1,ht1⟩:∃t1,t1=(Ax [91] t false).getD t:=⟨_,rfl⟩
 obtain⟨b1,hb1⟩:∃b1,b1=(Ax [91] t false).isNone:=⟨_,rfl⟩
 have Ht1:=Aa ht1
 have Hb1:=Aa hb1
 have HL1:=Aa (show b1=false->t1.length<N from by
  intro h
  rw[hb1]at h
  cases hr:Ax [91] t false with
  |none=>rw[hr]at h;cases h
  |some r=>have:=Hlt0.o r hr;rw[ht1,hr];simp;omega)
 rw[<-ht1]at hm
 rw[<-ht1,<-hb1]at Hwt
 have Htk:=Aa (fun W (h:Fs W b p t1 b1)=>Jb b p t1 [93] b1 W h (by omega))
 have HK:=Aa (fun s=>(rfl:Ai S 1000 N k s=Ai S 1000 N k s))
 clear h hw H hq ht1 hb1 HK
 have HF0:=Aa (J3.init (k:=k) HS.o (T:=39) (U:=42))
 unfold Fv
 go_enter func97,ntmps97
 go_wp2_with fail
 obtain⟨W1,hW1⟩:∃W1,W1=((w.alloc (.cells #[.string ⟨k.signs.toArray⟩,.string ⟨k.base.toArray⟩,.string ⟨k.name.toArray⟩] 39)).alloc (.cells #[.int .u8 0,.string ⟨#[]⟩,.int .i64 0,.slice none 0 0] 42)).alloc (.cells #[.int .u8 91,.string ⟨#[]⟩,.int .i64 0,.slice none 0 0] 42):=⟨_,rfl⟩
 rw[<-hW1]
 have hz1:W1.heap.size=w.heap.size+3:=by rw[hW1];simp
 have F1:=Aa (show J3 w b p k t false W1 from by rw[hW1];exact HF0.o.post ((As _ _).alloc (Ap _) _))
 have K1:=Aa (show Tt (w.heap.size+2+1) (w.heap.size+2) W1 (.int .u8 91) (.string ⟨#[]⟩) (.int .i64 0) (.slice none 0 0) (.slice none 0 0) []from by
  have hbk:Py W1 (w.heap.size+2):=by rw[hW1];have:=Py.new ((w.alloc (.cells #[.string ⟨k.signs.toArray⟩,.string ⟨k.base.toArray⟩,.string ⟨k.name.toArray⟩] 39)).alloc (.cells #[.int .u8 0,.string ⟨#[]⟩,.int .i64 0,.slice none 0 0] 42)) #[.int .u8 91,.string ⟨#[]⟩,.int .i64 0,.slice none 0 0] 42;simpa using this
  exact⟨by omega,by omega,by omega,hbk,by rw[hW1];simp[go_sem],by rw[hW1];simp[go_sem],by rw[hW1];simp[go_sem],by rw[hW1];simp[go_sem],World.ownsRow_nil _ _ _ _,by simp⟩)
 clear hW1 HF0
 refine(Hwt.o _ F1.o.1.1).mono ?_
 rintro e W2 ⟨rfl,hs2⟩
 have F2:=Aa (F1.o.step hb0 hs2)
 have K2:=Aa (K1.o.step hs2.2 (by omega) (by omega))
 clear hs2 F1 K1
 go_wp2_with fail
 refine(Htk.o _ F2.o.1.1).mono ?_
 rcases hy:Ax [93] t1 b1 with _|r
 ·have Hy:=Aa hy
  clear hy
  rintro e W3 ⟨rfl,hs3⟩
  simp only[Option.getD_none]at hs3
  have F3:=Aa (F2.o.step hb0 hs3)
  have K3:=Aa (K2.o.step hs3.2 (by omega) (by omega))
  clear hs3 F2 K2
  go_wp2_with fail
  go_loopw [] (fun wr=>∃(xs:List (Vl × Value)) (A:Option Addr) (n c:Nat) (tt:List UInt8),tt.length<=t1.length/\wr.cell? ⟨b,1,none⟩=some (.string ⟨tt.toArray⟩)/\Hid (J3 w b p k tt b1 wr)/\Hid (Tt (w.heap.size+2+1) (w.heap.size+2) wr (.int .u8 91) (.string ⟨#[]⟩) (.int .i64 0) (.slice A n c) (.slice A n c) xs)/\Hid (LI (Ai S 1000 N k) t1 b1 (Av xs) tt))
   (fun wr=>match wr.cell? ⟨b,1,none⟩with|some (.string s)=>s.size|_=>0)
  case atStart=>exact⟨[],none,0,0,t1,Ap _,F3.o.1.1.2.2.2.1,F3.o,K3.o,LI.init _ _ _⟩
  case round=>
   obtain⟨xs,A,n,c,tt,htl,c1,F,K,hI⟩:=hrel
   have s2:=F.o.1.1.2.2.2.2
   have hxl:xs.length<=900:=by have:=hI.o.len;simp[Av]at this;omega
   cases b1 with
   |true=>
    go_wp2_with fail
    have Hw9:=Aa (fun W (h:Fs W b p tt true)=>C0 b p tt [93] true W h (by omega))
    refine(Hw9.o _ F.o.1.1).mono ?_
    rintro e W7 ⟨rfl,hs7⟩
    have F7:=Aa (F.o.step hb0 hs7)
    have K7:=Aa (K.o.step hs7.2 (by omega) (by omega))
    have hfin:=Aa (HQ.o.trans ((Aa (hI.o.bad (N:=N))).o.fin Ht1.o Hb1.o Hy.o))
    have hle9:=Ea 93 tt true
    have hE9:=(Aa (hI.o.bad (N:=N))).o.2.1
    obtain⟨t4,ht4⟩:∃t4,t4=(Ax [93] tt true).getD tt:=⟨_,rfl⟩
    obtain⟨b4,hb4⟩:∃b4,b4=(Ax [93] tt true).isNone:=⟨_,rfl⟩
    rw[<-ht4]at F7 hfin hle9
    rw[<-hb4]at F7 hfin
    have e7:(Av xs).length=(xs).length:=by simp[Av]
    obtain⟨ys,hys⟩:∃ys,ys=xs:=⟨_,rfl⟩
    rw[<-hys]at K7 hfin hE9 e7
    have HB9:=Aa (Aa (hI.o.bad (N:=N))).o.2.2
    rw[<-hys]at HB9
    have hyl:ys.length<=1000:=by rw[hys];omega
    have d0:=K7.o.c0
    have d1:=K7.o.c1
    have d2:=K7.o.c2
    have d3:=K7.o.c3
    have s7:=F7.o.1.1.2.1.live 2
    have s8:=F7.o.1.1.2.2.2.2
    have q7:=F7.o.1.1.1
    have hn7:n=ys.length:=Kj K7.o.row
    subst hn7
    clear hs7 ht4 hb4 hys
    by_cases h20:ys.length<=20
    ·have t20:decide ((20:Int)<(ys.length:Int))=false:=decide_eq_false (by omega)
     go_wp2_with ((with_reducible refine Ad (op:=⟨none,.store 42 _ _,_,_,_,none⟩) rfl 42 _ _ rfl (w.heap.size+1) 0 [.int .u8 91,.string ⟨#[]⟩,.int .i64 0,.slice A ys.length c] ?_ ?_ ?_ ?_ ?_ ?_);rfl;rfl;(exact F7.o.2.2.1);kernel_rfl;(simp[Value.oneCell']);intro w9 HS9)
     have Z:=J3.fin (t:=t) (N:=N+1) (v:=.mk 91 [] 0 (Av ys)) (sl:=.slice A ys.length c) (r:=q) F7.o hb0 HS9.o ((K7.o.done hyl).mono fun c hc _=>by omega) (by rw[hfin.o,e7];cases b4<;>simp[h20])
      (by rw[hfin.o,e7];cases b4<;>simp[h20]) (.mk (by decide) (by omega) (by simp) HB9.o) (by omega) (by rw[Fr];simp[Bb];omega)
     exact bodyPost_ret (v:=.agg (G6 (.mk 91 [] 0 (Av ys)) (.slice A ys.length c)).toArray) (Ay results97 _ _ (w.heap.size+1) _ _ rfl Z.2 underlying42 rfl (by kernel_rfl)) rfl Z.1
    have t20:decide ((20:Int)<(ys.length:Int))=true:=decide_eq_true (by omega)
    have F8:=Aa (F7.o.step hb0 ⟨F7.o.1.1.setBad true,Bc _ b 2 (.bool true)⟩)
    have K8:=Aa (K7.o.step (Bc _ b 2 (.bool true)) (by omega) (by omega))
    go_wp2_with ((with_reducible refine Ad (op:=⟨none,.store 42 _ _,_,_,_,none⟩) rfl 42 _ _ rfl (w.heap.size+1) 0 [.int .u8 91,.string ⟨#[]⟩,.int .i64 0,.slice A ys.length c] ?_ ?_ ?_ ?_ ?_ ?_);rfl;rfl;(exact F8.o.2.2.1);kernel_rfl;(simp[Value.oneCell']);intro w9 HS9)
    have Z:=J3.fin (t:=t) (N:=N+1) (v:=.mk 91 [] 0 (Av ys)) (sl:=.slice A ys.length c) (r:=q) F8.o hb0 HS9.o ((K8.o.done hyl).mono fun c hc _=>by omega) (by rw[hfin.o,e7];simp[h20])
     (by rw[hfin.o,e7];simp[h20]) (.mk (by decide) (by omega) (by simp) HB9.o) (by omega) (by rw[Fr];simp[Bb];omega)
    exact bodyPost_ret (v:=.agg (G6 (.mk 91 [] 0 (Av ys)) (.slice A ys.length c)).toArray) (Ay results97 _ _ (w.heap.size+1) _ _ rfl Z.2 underlying42 rfl (by kernel_rfl)) rfl Z.1
   |false=>
    have h1N:=HL1.o rfl
    go_wp2_with fail
    refine P3 [17,18,19,20,21,22,23,24,999]
     (fun ix v W=>match ix with|0=>v=.pointer (some ⟨w.heap.size+2,3,none⟩)|1=>v=.slice A n c|2=>v=.pointer (some ⟨b,0,none⟩)|3=>v=Fv k|4=>∃x s,v=G1 x s|5=>∃g,v=.slice (some ⟨g,0,none⟩) 1 1|6=>∃A n c,v=.slice A n c|7=>v=.pointer (some ⟨w.heap.size+2,3,none⟩)|_=>True)
     (fun L U W=>Qjh w b (w.heap.size+2) p k (.int .u8 91) (.string ⟨#[]⟩) (.int .i64 0) (.slice A n c) xs tt false N (Ai S 1000 N k tt) (L 4) (L 5) (L 6) (L 8) (U 4) (U 5) (U 6) W) (⟨⟨tt,false,F.o.post (As _ _).drew,fun _=>⟨rfl,rfl⟩⟩,fun _=>K.o.after (As _ _).drew,fun h=>Bool.noConfusion h⟩) ?_ ?_
    ·repeat (first|exact Aq.nil|(refine Aq.cons ?_ ?_;rotate_left))
     all_goals
      rintro L U W hL hpre HR Hdep K hK
      obtain⟨⟨t2,bad2,hF2,hF2'⟩,R2,R3⟩:=HR.o
      have k0:=Ac hF2.2.1 0 rfl
      have k1:=Ac hF2.2.1 1 rfl
      have k2:=Ac hF2.2.1 2 rfl
      simp only[Nat.zero_add]at k0 k1 k2
      first|(simp[Region.binds]at hpre;done)|simp[Region.binds]at hpre|clear hpre
     ·go_simp
      first|exact hK _ _ _ rfl Ab HR.o rfl|exact kE hK HR.o|exact hK undef _ _ Ab Ab HR.o (by simp[Act.put,hpre])|exact hK _ _ _ Ab Ab HR.o rfl|exact kE hK HR.o
     ·have h6:L 6=false:=Bz Hdep.o 6 1 rfl hL
      have g3:=(R2 h6).c3
      go_simp
      first|exact hK _ _ _ rfl Ab HR.o rfl|exact kE hK HR.o
     ·go_simp
      first|exact hK _ _ _ rfl Ab HR.o rfl|exact kE hK HR.o|exact hK undef _ _ Ab Ab HR.o (by simp[Act.put,hpre])|exact hK _ _ _ Ab Ab HR.o rfl|exact kE hK HR.o
     ·go_simp
      first|exact hK (Fv k) _ _ rfl Ab HR.o rfl|exact hK (Fv k) _ _ rfl Ab HR.o (by simp[Act.put,hpre])
     ·have h5:L 5=false:=Bz Hdep.o 5 4 rfl hL
      have h6:L 6=false:=Bz Hdep.o 6 5 rfl h5
      have h8:L 8=false:=Bz Hdep.o 8 6 rfl h6
      obtain⟨rfl,rfl⟩:=hF2' hL
      go_simp
      refine(HH.o t2 false _ (hF2.1.env HW.o hb) hF2.1.1 (by omega) (fun _=>by omega)).mono ?_
      rintro e w5 ⟨v,sl,t',rfl,hk5,hs5,hx5,hB5,hl5,hn5⟩
      simp only[Bool.false_eq_true,if_false]at hx5 hs5
      have hF5:=hF2.step hb0 hs5
      have hK5:=(R2 h6).step hs5.2 (by omega) (by omega)
      have hks:D8 (fun g=>w.heap.size+2+1<=g/\(Value.slice A n c).ownBlock≠some g) w5 sl v.kids:=hk5.mono fun c hc _=>⟨by have:=(R2 h6).bs;omega,fun e=>by have:=((R2 h6).row.lt c e).2;omega⟩
      exact hK (G1 v sl) _ _ ⟨v,sl,rfl⟩ Ab ⟨⟨t',_,hF5,fun h=>by simp at h⟩,fun _=>hK5,fun _=>⟨v,sl,t',rfl,⟨hx5,hB5,hl5,hn5⟩,hF5,fun _=>hks,fun h=>absurd (h5.symm.trans (by simpa using h)) (by decide),fun h=>absurd (h6.symm.trans (by simpa using h)) (by decide),fun h=>absurd (h8.symm.trans (by simpa using h)) (by decide)⟩⟩ (by simp[Act.put,hpre])
     ·have h6:L 6=false:=Bz Hdep.o 6 5 rfl hL
      have h8:L 8=false:=Bz Hdep.o 8 6 rfl h6
      obtain⟨v,sl,t',u4,hrd,hF3,hks,_,_,_⟩:=R3 hpre.1
      obtain⟨A7,c7,rfl⟩:=(hks h6).form
      have hba:Below W.heap.size W (W.alloc (.cells (Jk (v,.slice A7 v.kids.length c7)).toArray 42)):=(As _ _).alloc (Ap _) _
      unfold G1 at u4
      go_simp
      exact hK (.slice (some ⟨W.heap.size,0,none⟩) 1 1) _ _ ⟨W.heap.size,rfl⟩ Ab ⟨⟨t',_,hF3.post hba,fun h=>absurd (hpre.1.symm.trans (by simpa using h)) (by decide)⟩,fun _=>(R2 h6).after hba,fun _=>⟨v,_,t',u4,hrd,hF3.post hba,fun _=>(hks h6).after hba,fun _ _=>⟨W,rfl,rfl,R2 h6,hks h6,hF3⟩,fun h=>absurd (h6.symm.trans (by simpa using h)) (by decide),fun h=>absurd (h8.symm.trans (by simpa using h)) (by decide)⟩⟩ (by simp[Act.put,u4])
     ·have h8:L 8=false:=Bz Hdep.o 8 6 rfl hL
      obtain⟨lv,uv⟩:=hpre.1
      have ls:L 5=true:=hpre.2.1.1
      have lc:L 4=true:=hpre.2.2.1
      obtain⟨v,sl,t',u4,hrd,hF3,hks,hs,_,_⟩:=R3 lc
      obtain⟨W7,rfl,u5,hK7,hk7,hF7⟩:=hs ls hL
      obtain⟨A7,c7,e7⟩:=hk7.form
      have hlen7:=hK7.row
      rw[if_pos (by rfl)]
      refine Qj W7 (.tmp 18) (.tmp 22) 40 rfl (w.heap.size+2+1) 42 (.agg #[.int .u8 0,.string ⟨#[]⟩,.int .i64 0,.slice none 0 0]) 4 56 underlying40 Qck rfl (by decide) (Jk (v,sl)) rfl (Qco _ (by rw[e7];rfl)) (.slice A n c) xs.length (xs.flatMap Jk) uv u5 hK7.row (by unfold maxLen;omega) (by omega) hK7.bs ?_
      intro v' w' hown hg hwh
      obtain⟨A5',n5',c5',rfl⟩:=H8 hown
      have hKa:=hK7.app (x:=(v,sl)) hk7 hown hg hwh
      have hFa:J3 w b p k t' (Ai S 1000 N k tt).isNone w':=hF7.app hb0 hg (fun c e=>by have:=(hK7.row.lt c e).1;omega)
      exact hK _ _ _ ⟨A5',n5',c5',rfl⟩ Ab ⟨⟨t',_,hFa,fun h=>absurd (lc.symm.trans (by simpa using h)) (by decide)⟩,fun h=>by simp at h,fun _=>⟨v,sl,t',u4,hrd,hFa,fun h=>by simp at h,fun _ h=>by simp at h,fun _ _=>⟨A5',n5',c5',rfl,hKa⟩,fun h=>absurd (h8.symm.trans (by simpa using h)) (by decide)⟩⟩ rfl
     ·go_simp
      first|exact hK _ _ _ rfl Ab HR.o rfl|exact kE hK HR.o|exact hK undef _ _ Ab Ab HR.o (by simp[Act.put,hpre])|exact hK _ _ _ Ab Ab HR.o rfl|exact kE hK HR.o
     ·obtain⟨la,A5',n5',c5',ua⟩:=hpre.2.1
      have up:=hpre.1.2
      have ls:L 5=true:=by
       cases h5:L 5 with
       |true=>rfl
       |false=>exact absurd (la.symm.trans (Bz Hdep.o 6 5 rfl h5)) (by decide)
      have lc:L 4=true:=by
       cases h4:L 4 with
       |true=>rfl
       |false=>exact absurd (ls.symm.trans (Bz Hdep.o 5 4 rfl h4)) (by decide)
      obtain⟨v,sl,t',u4,hrd,hF3,_,_,ha,_⟩:=R3 lc
      obtain⟨A6',n6',c6',ua',hKa⟩:=ha la hL
      rw[ua]at hKa
      have hcell:=hKa.c3
      have hfz:=hKa.bk.live 3
      have hst:=hKa.store
      have hst2:Tt (w.heap.size+2+1) (w.heap.size+2) (W.setCell ⟨w.heap.size+2,3,none⟩ (.slice A5' n5' c5')) (.int .u8 91) (.string ⟨#[]⟩) (.int .i64 0) (U 6) (U 6) (xs++[(v,sl)]):=by rw[ua];exact hst
      have hFs:J3 w b p k t' (Ai S 1000 N k tt).isNone (W.setCell ⟨w.heap.size+2,3,none⟩ (.slice A5' n5' c5')):=hF3.put hb0 (by omega) _
      go_simp
      exact hK undef _ _ Ab Ab ⟨⟨t',_,hFs,fun h=>absurd (lc.symm.trans (by simpa using h)) (by decide)⟩,fun h=>absurd (la.symm.trans (by simpa using h)) (by decide),fun _=>⟨v,sl,t',u4,hrd,hFs,fun h=>absurd (la.symm.trans (by simpa using h)) (by decide),fun _ h=>absurd (la.symm.trans (by simpa using h)) (by decide),fun _ h=>by simp at h,fun _=>⟨A5',n5',c5',ua,hst2⟩⟩⟩ (by simp[Act.put,hpre,up,ua,u4])
    rintro L U W hL hφ hR
    clear hφ
    obtain⟨_,_,h3⟩:=hR
    obtain⟨v,sl,t',_,hrd,hF,_,_,_,hd⟩:=h3 (hL 4 (by decide))
    obtain⟨A5,n5,c5,e5,hK5⟩:=hd (hL 8 (by decide))
    rw[e5]at hK5
    have F5:=Aa hF
    have K5:=Aa hK5
    have Rd5:=Aa hrd
    have ht5:=hrd.2.2.1
    clear hL h3 hd hF hK5 hrd
    have Htk5:=Aa (fun W (h:Fs W b p t' (Ai S 1000 N k tt).isNone)=>Jb b p t' [44] (Ai S 1000 N k tt).isNone W h (by omega))
    go_wp2_with fail
    refine(Htk5.o _ F5.o.1.1).mono ?_
    rcases hc:Ax [44] t' (Ai S 1000 N k tt).isNone with _|r
    ·have Hc:=Aa hc
     clear hc
     rintro e W6 ⟨rfl,hs6⟩
     simp only[Option.getD_none]at hs6
     have F6:=Aa (F5.o.step hb0 hs6)
     have K6:=Aa (K5.o.step hs6.2 (by omega) (by omega))
     have E6:=Aa (show LE (Ai S 1000 N k) t1 false (Av (xs++[(v,sl)])) t' (Ai S 1000 N k tt).isNone N from by
      have:=hI.o.brk (N:=N) Rd5.o.1 Hc.o Rd5.o.2.1 (by omega) Rd5.o.2.2.2
      simpa [Av]using this)
     clear hs6 F5 K5 Hc
     go_wp2_with fail
     have Hw9:=Aa (fun W (h:Fs W b p t' (Ai S 1000 N k tt).isNone)=>C0 b p t' [93] (Ai S 1000 N k tt).isNone W h (by omega))
     refine(Hw9.o _ F6.o.1.1).mono ?_
     rintro e W7 ⟨rfl,hs7⟩
     have F7:=Aa (F6.o.step hb0 hs7)
     have K7:=Aa (K6.o.step hs7.2 (by omega) (by omega))
     have hfin:=Aa (HQ.o.trans (E6.o.fin Ht1.o Hb1.o Hy.o))
     have hle9:=Ea 93 t' (Ai S 1000 N k tt).isNone
     have hE9:=E6.o.2.1
     obtain⟨t4,ht4⟩:∃t4,t4=(Ax [93] t' (Ai S 1000 N k tt).isNone).getD t':=⟨_,rfl⟩
     obtain⟨b4,hb4⟩:∃b4,b4=(Ax [93] t' (Ai S 1000 N k tt).isNone).isNone:=⟨_,rfl⟩
     rw[<-ht4]at F7 hfin hle9
     rw[<-hb4]at F7 hfin
     have e7:(Av (xs++[(v,sl)])).length=((xs++[(v,sl)])).length:=by simp[Av]
     obtain⟨ys,hys⟩:∃ys,ys=(xs++[(v,sl)]):=⟨_,rfl⟩
     rw[<-hys]at K7 hfin hE9 e7
     have HB9:=Aa E6.o.2.2
     rw[<-hys]at HB9
     have hyl:ys.length<=1000:=by rw[hys];simp;omega
     have d0:=K7.o.c0
     have d1:=K7.o.c1
     have d2:=K7.o.c2
     have d3:=K7.o.c3
     have s7:=F7.o.1.1.2.1.live 2
     have s8:=F7.o.1.1.2.2.2.2
     have q7:=F7.o.1.1.1
     have hn7:n5=ys.length:=Kj K7.o.row
     subst hn7
     clear hs7 ht4 hb4 hys
     by_cases h20:ys.length<=20
     ·have t20:decide ((20:Int)<(ys.length:Int))=false:=decide_eq_false (by omega)
      go_wp2_with ((with_reducible refine Ad (op:=⟨none,.store 42 _ _,_,_,_,none⟩) rfl 42 _ _ rfl (w.heap.size+1) 0 [.int .u8 91,.string ⟨#[]⟩,.int .i64 0,.slice A5 ys.length c5] ?_ ?_ ?_ ?_ ?_ ?_);rfl;rfl;(exact F7.o.2.2.1);kernel_rfl;(simp[Value.oneCell']);intro w9 HS9)
      have Z:=J3.fin (t:=t) (N:=N+1) (v:=.mk 91 [] 0 (Av ys)) (sl:=.slice A5 ys.length c5) (r:=q) F7.o hb0 HS9.o ((K7.o.done hyl).mono fun c hc _=>by omega) (by rw[hfin.o,e7];cases b4<;>simp[h20])
       (by rw[hfin.o,e7];cases b4<;>simp[h20]) (.mk (by decide) (by omega) (by simp) HB9.o) (by omega) (by rw[Fr];simp[Bb];omega)
      exact bodyPost_ret (v:=.agg (G6 (.mk 91 [] 0 (Av ys)) (.slice A5 ys.length c5)).toArray) (Ay results97 _ _ (w.heap.size+1) _ _ rfl Z.2 underlying42 rfl (by kernel_rfl)) rfl Z.1
     have t20:decide ((20:Int)<(ys.length:Int))=true:=decide_eq_true (by omega)
     have F8:=Aa (F7.o.step hb0 ⟨F7.o.1.1.setBad true,Bc _ b 2 (.bool true)⟩)
     have K8:=Aa (K7.o.step (Bc _ b 2 (.bool true)) (by omega) (by omega))
     go_wp2_with ((with_reducible refine Ad (op:=⟨none,.store 42 _ _,_,_,_,none⟩) rfl 42 _ _ rfl (w.heap.size+1) 0 [.int .u8 91,.string ⟨#[]⟩,.int .i64 0,.slice A5 ys.length c5] ?_ ?_ ?_ ?_ ?_ ?_);rfl;rfl;(exact F8.o.2.2.1);kernel_rfl;(simp[Value.oneCell']);intro w9 HS9)
     have Z:=J3.fin (t:=t) (N:=N+1) (v:=.mk 91 [] 0 (Av ys)) (sl:=.slice A5 ys.length c5) (r:=q) F8.o hb0 HS9.o ((K8.o.done hyl).mono fun c hc _=>by omega) (by rw[hfin.o,e7];simp[h20])
      (by rw[hfin.o,e7];simp[h20]) (.mk (by decide) (by omega) (by simp) HB9.o) (by omega) (by rw[Fr];simp[Bb];omega)
     exact bodyPost_ret (v:=.agg (G6 (.mk 91 [] 0 (Av ys)) (.slice A5 ys.length c5)).toArray) (Ay results97 _ _ (w.heap.size+1) _ _ rfl Z.2 underlying42 rfl (by kernel_rfl)) rfl Z.1
    have Hc:=Aa hc
    have hcl:=Jh hc
    clear hc
    rintro e W6 ⟨rfl,hs6⟩
    simp only[Option.getD_some]at hs6
    cases hk:Ai S 1000 N k tt with
    |none=>rw[hk,B6]at Hc;exact absurd Hc.o (by simp)
    |some y=>
     have Hk:=Aa hk
     rw[hk]at hs6 F5 Rd5
     have F6:=Aa (F5.o.step hb0 hs6)
     have K6:=Aa (K5.o.step hs6.2 (by omega) (by omega))
     have I6:=Aa (show LI (Ai S 1000 N k) t1 false (Av (xs++[(v,sl)])) r from by
      obtain⟨e1,e2⟩:=Rd5.o.1 y rfl
      have hg:=HG.o tt y.1 y.2 (by rw[Hk.o])
      have h44:Am 44 t'=some r:=by have:=Hc.o;rw[Hk.o,B6]at this;simpa using this
      have:=hI.o.step (v:=v) (t':=t') (by rw[Hk.o,e1,e2]) (by rw[hg,e1,e2];simp) h44 Rd5.o.2.1 (by omega)
      simpa [Av]using this)
     have c6:=F6.o.1.1.2.2.2.1
     clear hs6 F5 K5 hk
     go_wp2_with fail
     go_roundw
     case rel=>exact⟨xs++[(v,sl)],A5,n5,c5,r,by omega,c6,F6.o,K6.o,I6.o⟩
     case measure=>simp[c1,c6,ByteArray.size];omega
 have Hy:=Aa hy
 have hlt:=Jh hy
 clear hy
 rintro e W3 ⟨rfl,hs3⟩
 simp only[Option.getD_some]at hs3
 have F3:=Aa (F2.o.step hb0 hs3)
 have K3:=Aa (K2.o.step hs3.2 (by omega) (by omega))
 clear hs3 F2 K2
 have d0:=K3.o.c0
 have d1:=K3.o.c1
 have d2:=K3.o.c2
 have d3:=K3.o.c3
 go_wp2_with ((with_reducible refine Ad (op:=⟨none,.store 42 _ _,_,_,_,none⟩) rfl 42 _ _ rfl (w.heap.size+1) 0 [.int .u8 91,.string ⟨#[]⟩,.int .i64 0,.slice none 0 0] ?_ ?_ ?_ ?_ ?_ ?_);rfl;rfl;(exact F3.o.2.2.1);kernel_rfl;(simp[Value.oneCell']);intro w9 HS9)
 have hq2:q=some (.mk 91 [] 0 [],r):=by
  have h1:=Ht1.o
  have h2:=Hb1.o
  have h3:=Hy.o
  rw[HQ.o]
  rw[B6]at h1 h2 h3
  unfold Sa
  simp only[Bool.false_eq_true,if_false]at h1 h2
  cases h9:Am 91 t with
  |none=>rw[h9]at h2;simp at h2;subst h2;simp at h3
  |some z=>
   rw[h9]at h1 h2
   simp at h1 h2
   subst h1 h2
   simp only[Bool.false_eq_true,if_false]at h3
   simp only[h3]
 have Z:=J3.fin (t:=t) (N:=N+1) (v:=.mk 91 [] 0 []) (sl:=.slice none 0 0) (r:=q) F3.o hb0 HS9.o (D8.nil _ _) (by rw[hq2];cases b1;rfl;have:=Hy.o;rw[B6]at this;simp at this)
  (by rw[hq2];simp) (El (by decide) (by decide)) (by omega) (by simp[Az,Dx,E8,Ak];omega)
 exact bodyPost_ret (v:=.agg (G6 (.mk 91 [] 0 []) (.slice none 0 0)).toArray) (Ay results97 _ _ (w.heap.size+1) _ _ rfl Z.2 underlying42 rfl (by kernel_rfl)) rfl Z.1
theorem X8(p:Value)(xs:List PT)(hok:∀y∈xs,Dc y.ty)(n:Nat)(k:Kd)(w:World)(hsc:Qn w p xs)(hk:Co k)(hs:k.signs=[])(hb:k.base=[64])(x:PT)(hx:Ej xs k.name=some x)
  (hn:n<=9) (ih:x.ty.sort=85->∀f fs,x.ty.fields=f::fs->∀W,Qn W p xs->Calls prog 162 #[p,Fv f.kind] W (G0 (Cx (Ag xs) n f.kind) W)):
  Calls prog 162 #[p,Fv k] w (G0 (Cx (Ag xs) (n+1) k) w):=by
 have Hlen:=Aa (Pv (Ag xs) (fun t ht=>by obtain⟨y,hy,rfl⟩:=List.mem_map.1 ht;exact hok y hy))
 have HF:=Aa (show Cx (Ag xs) (n+1) k=if x.ty.sort=82 then[123,125]else match x.ty.fields with|[]=>[]|f::_=>if x.ty.sort=69 then 35::Aw f.tag else 60::(Aw f.tag++61::(Cx (Ag xs) n f.kind++[62]))from by
  rw[Cx,if_neg (by rw[hs];decide),if_neg (by rw[hs];decide),if_neg (by rw[hb];decide),if_neg (by rw[hb];decide),if_neg (by rw[hb];decide),Gb,hx];rfl)
 have hxm:=(Dz hx).1
 have Hto:=Aa (hok _ hxm)
 have hnl:=Gp hk
 have Hsc:=Aa hsc
 obtain⟨pb,A,cc,mb,rfl,q0,q1,q2,q3,q4,htys,_⟩:=hsc
 obtain⟨z0,_,z1,z2,z3,z4,A8,c,hz8,hl8',hrow8⟩:=htys x hxm
 rw[hz8]at z3
 have Hrow:=Aa hrow8
 have Ih:=Aa ih
 have Hlk:=Aa (fun W (h:Below w.heap.size w W)=>show (Instr.lookup 78 (.map (some mb)) (.string ⟨k.name.toArray⟩) false).run prog W=.ok (.pointer (some ⟨x.blk,0,none⟩)) W from by
  have:=Fa (Di.below q4 h) k.name (by omega);rw[hx]at this;exact this)
 have hmb:=q4.lt
 unfold Fv
 rw[hs,hb]
 clear hk hs hb hx q1 q3 q4 htys hrow8 ih hok hz8 z2 z4 hxm
 go_enter func162,ntmps162
 go_wp2_with fail
 refine(D9 _ _ _).mono ?_
 rintro e w1 ⟨rfl,hb1⟩
 obtain⟨hc1,_,hzz⟩:=Bw hb1
 have y1:w1.cell? ⟨w.heap.size,1,none⟩=some (.string ⟨#[64]⟩):=(hc1 w.heap.size 1 (by simp)).trans (by simp)
 have y2:w1.cell? ⟨w.heap.size,2,none⟩=some (.string ⟨k.name.toArray⟩):=(hc1 w.heap.size 2 (by simp)).trans (by simp)
 have Hb1:=Aa (show Below w.heap.size w w1 from((As w.heap.size w).alloc (Ap _) _).trans (hb1.mono (by simp)))
 have hz1:w.heap.size<w1.heap.size:=by have:=hb1.size;simp at this;omega
 have m1:w1.cell? ⟨pb,1,none⟩=some (.map (some mb)):=(Hb1.o.cell (p:=⟨pb,1,none⟩) q0).trans q2
 have u0:w1.cell? ⟨x.blk,0,none⟩=some (.int .u8 (x.ty.sort.toNat:Int)):=(Hb1.o.cell (p:=⟨x.blk,0,none⟩) z0).trans z1
 have u2:w1.cell? ⟨x.blk,2,none⟩=some (.slice A8 x.ty.fields.length c):=(Hb1.o.cell (p:=⟨x.blk,2,none⟩) z0).trans z3
 have Hlook:=Aa (fun q=>Hlk.o (w1.drewN q) (Hb1.o.trans ((below_drewN (As _ _) q).mono Hb1.o.size)))
 clear hc1 hzz hb1 q2 z1 z3
 go_wp2_with fail
 refine P3 [20,21,22,23,24,25,26,5]
  (fun i v W=>match i with|0=>v=.pointer (some ⟨pb,0,none⟩)|1=>v=.pointer (some ⟨pb,0,none⟩)|2=>v=.pointer (some ⟨pb,1,none⟩)|3=>v=.map (some mb)|4=>v=.pointer (some ⟨w.heap.size,2,none⟩)|5=>v=.string ⟨k.name.toArray⟩|6=>v=.pointer (some ⟨x.blk,0,none⟩)|7=>v=.pointer (some ⟨x.blk,0,none⟩)|_=>True)
  (fun L U W=>∃q,W=w1.drewN q) (⟨1,rfl⟩) ?_ ?_
 ·repeat (first|exact Aq.nil|(refine Aq.cons ?_ ?_;rotate_left))
  all_goals
   rintro L U W hL hpre HR Hdep K hK
   obtain⟨q,rfl⟩:=HR.o
   have hlq:=Hlook.o q
   first|(simp[Region.binds]at hpre;done)|simp[Region.binds]at hpre|clear hpre
  iterate 8
   ·go_simp
    first|exact hK _ _ _ rfl Ab HR.o rfl|exact kE hK HR.o|exact hK undef _ _ Ab Ab HR.o (by simp[Act.put,hpre])|exact hK _ _ _ Ab Ab HR.o rfl|exact kE hK HR.o
 rintro L U W hL hφ hR
 have e7:U 7=.pointer (some ⟨x.blk,0,none⟩):=hφ 7 (by decide)
 simp only[e7]
 clear hφ
 obtain⟨q,rfl⟩:=hR
 have Hbq:=Aa (Hb1.o.trans ((below_drewN (As w1.heap.size w1) q).mono Hb1.o.size))
 clear hL y1 y2 m1
 by_cases h82:x.ty.sort=82
 ·have t82:((x.ty.sort.toNat:Int) == 82)=true:=Bl (d:=82) h82
  have HF2:=Aa (HF.o.trans (if_pos h82))
  clear h82 HF
  go_wp2_with fail
  go_ret
  exact⟨by rw[HF2.o];rfl,Hbq.o⟩
 have t82:((x.ty.sort.toNat:Int) == 82)=false:=An (d:=82) h82
 have HF2:=Aa (HF.o.trans (if_neg h82))
 have hne:x.ty.fields≠[]:=fun h=>h82 (Hto.o.2.2.2.2 h)
 obtain⟨f,fs,hfs⟩:∃f fs,x.ty.fields=f::fs:=by
  cases h:x.ty.fields with
  |nil=>exact absurd h hne
  |cons f fs=>exact⟨f,fs,rfl⟩
 have hf0:0<x.ty.fields.length:=by rw[hfs];simp
 have hge:x.ty.fields[0]=f:=by simp[hfs]
 have hft:=Hto.o.2.2.1.1 f (by rw[hfs];simp)
 have htag:f.tag<=200:=hft.2.1
 have hdl:=Ds 2 f.tag (by have e:10 ^ (2+1)=1000:=rfl;omega)
 have Hd:=Aa (fun W=>Nd f.tag f.tag W (Ap _) (by omega))
 have hi0:(0:Int)<(x.ty.fields.length:Int):=by omega
 have HF3:=Aa (show Cx (Ag xs) (n+1) k=if x.ty.sort=69 then 35::Aw f.tag else 60::(Aw f.tag++61::(Cx (Ag xs) n f.kind++[62]))from by rw[HF2.o,hfs])
 have Hfs:=Aa hfs
 obtain⟨b,off,rfl,hbl,hrg⟩:=Q7.range Hrow.o hf0
 rw[hge]at hrg
 have hrq:=Ar hrg hbl Hbq.o
 simp only[Nat.zero_mul,Nat.add_zero]at hrq
 have g0:(w1.drewN q).cell? ⟨b,off,none⟩=some (.int .i64 (f.tag:Int)):=by simpa using Ac hrq 0 rfl
 have G2:=Aa (Ac hrq 2 rfl)
 have G3:=Aa (Ac hrq 3 rfl)
 have G4:=Aa (Ac hrq 4 rfl)
 have H82:=Aa h82
 clear HF2 HF h82 hne hfs hge hft hrg hrq
 by_cases h69:x.ty.sort=69
 ·have t69:((x.ty.sort.toNat:Int) == 69)=true:=Bl (d:=69) h69
  have HF4:=Aa (HF3.o.trans (if_pos h69))
  clear h69 HF3
  go_wp2_with fail
  refine(Hd.o _).mono ?_
  rintro e w2 ⟨rfl,hb2⟩
  go_wp2_with fail
  go_ret
  exact⟨by rw[HF4.o];simp,Hbq.o.trans (hb2.mono Hbq.o.size)⟩
 have t69:((x.ty.sort.toNat:Int) == 69)=false:=An (d:=69) h69
 have HF4:=Aa (HF3.o.trans (if_neg h69))
 have h85:x.ty.sort=85:=by
  rcases Hto.o.1 with h|h|h
  ·exact absurd h H82.o
  ·exact h
  exact absurd h h69
 have Ih2:=Aa (Ih.o h85 f fs Hfs.o)
 unfold Fv at Ih2
 have hsl:=Hlen.o n f.kind
 generalize Cx (Ag xs) n f.kind=sl at *
 clear h69 HF3 h85 Ih
 go_wp2_with fail
 obtain⟨W0,hW0⟩:∃W0,W0=w1.drewN q:=⟨_,rfl⟩
 rw[<-hW0]at Hbq g0 G2 G3 G4 ⊢
 have Y2:=Aa (show W0.cell? ⟨x.blk,2,none⟩=some (.slice (some ⟨b,off,none⟩) x.ty.fields.length c)from by rw[hW0];exact u2)
 have Y0:=Aa g0
 have Y3:=Aa (show W0.cell? ⟨b,off+2,none⟩=some (.string ⟨f.kind.signs.toArray⟩)from G2.o)
 have Y4:=Aa (show W0.cell? ⟨b,off+3,none⟩=some (.string ⟨f.kind.base.toArray⟩)from G3.o)
 have Y5:=Aa (show W0.cell? ⟨b,off+4,none⟩=some (.string ⟨f.kind.name.toArray⟩)from G4.o)
 have Hx5:=Aa (show x.blk<W0.heap.size from Nat.lt_of_lt_of_le z0 Hbq.o.size)
 have Hb5:=Aa (show b<W0.heap.size from Nat.lt_of_lt_of_le hbl Hbq.o.size)
 have Hsc0:=Aa (Hsc.o.below Hbq.o)
 clear hW0 g0 u0 u2
 refine P3 [44,45,46,47,48,49,50,51,52,53,54,55,56,57,58,59,60,61,62,63,64,4]
  (fun i v W=>match i with|0=>v=.pointer (some ⟨x.blk,0,none⟩)|1=>v=.pointer (some ⟨x.blk,0,none⟩)|2=>v=.pointer (some ⟨x.blk,2,none⟩)|3=>v=.slice (some ⟨b,off,none⟩) x.ty.fields.length c|4=>v=.pointer (some ⟨b,off,none⟩)|5=>v=.pointer (some ⟨b,off,none⟩)|6=>v=.int .i64 (f.tag:Int)|7=>v=.string ⟨(Aw f.tag).toArray⟩|8=>v=.string ⟨(60::Aw f.tag).toArray⟩|9=>v=.string ⟨(60::(Aw f.tag++[61])).toArray⟩|10=>v=.pointer (some ⟨pb,0,none⟩)|11=>v=.pointer (some ⟨x.blk,0,none⟩)|12=>v=.pointer (some ⟨x.blk,0,none⟩)|13=>v=.pointer (some ⟨x.blk,2,none⟩)|14=>v=.slice (some ⟨b,off,none⟩) x.ty.fields.length c|15=>v=.pointer (some ⟨b,off,none⟩)|16=>v=.pointer (some ⟨b,off+2,none⟩)|17=>v=.agg #[.string ⟨f.kind.signs.toArray⟩,.string ⟨f.kind.base.toArray⟩,.string ⟨f.kind.name.toArray⟩]|18=>v=.string ⟨(sl).toArray⟩|19=>v=.string ⟨(60::(Aw f.tag++61::sl)).toArray⟩|20=>v=.string ⟨(60::(Aw f.tag++61::(sl++[62]))).toArray⟩|21=>v=.string ⟨(60::(Aw f.tag++61::(sl++[62]))).toArray⟩|_=>True)
  (fun L U W=>Below W0.heap.size W0 W) ((As _ _).drew) ?_ ?_
 ·repeat (first|exact Aq.nil|(refine Aq.cons ?_ ?_;rotate_left))
  all_goals
   rintro L U W hL hpre HR Hdep K hK
   have hB:=HR.o
   have c2:=(hB.cell (p:=⟨x.blk,2,none⟩) Hx5.o).trans Y2.o
   have c0:=(hB.cell (p:=⟨b,off,none⟩) Hb5.o).trans Y0.o
   have c3:=(hB.cell (p:=⟨b,off+2,none⟩) Hb5.o).trans Y3.o
   have c4:=(hB.cell (p:=⟨b,off+3,none⟩) Hb5.o).trans Y4.o
   have c5:=(hB.cell (p:=⟨b,off+4,none⟩) Hb5.o).trans Y5.o
   have c4':W.cell? ⟨b,off+2+1,none⟩=_:=c4
   have c5':W.cell? ⟨b,off+2+1+1,none⟩=_:=c5
   have c5'':W.cell? ⟨b,off+2+2,none⟩=_:=c5
   first|(simp[Region.binds]at hpre;done)|simp[Region.binds]at hpre|clear hpre
  iterate 7
   ·go_simp
    first|exact hK _ _ _ rfl Ab HR.o rfl|exact kE hK HR.o|exact hK undef _ _ Ab Ab HR.o (by simp[Act.put,hpre])|exact hK _ _ _ Ab Ab HR.o rfl|exact kE hK HR.o
  ·go_simp
   refine(Hd.o _).mono ?_
   rintro e w3 ⟨rfl,hb3⟩
   exact hK _ _ _ rfl Ab (hB.trans (hb3.mono hB.size)) (by simp[Act.put,hpre])
  ·go_simp
   rw[if_neg (by first|omega|(simp;omega))]
   go_simp
   first|exact hK _ _ _ rfl Ab HR.o rfl|exact kE hK HR.o
  ·go_simp
   rw[if_neg (by first|omega|(simp;omega))]
   go_simp
   first|exact hK _ _ _ rfl Ab HR.o rfl|exact kE hK HR.o
  iterate 8
   ·go_simp
    first|exact hK _ _ _ rfl Ab HR.o rfl|exact kE hK HR.o|exact hK undef _ _ Ab Ab HR.o (by simp[Act.put,hpre])|exact hK _ _ _ Ab Ab HR.o rfl|exact kE hK HR.o
  ·go_simp
   refine(Ih2.o _ (Hsc0.o.below hB)).mono ?_
   rintro e w3 ⟨rfl,hb3⟩
   exact hK _ _ _ rfl Ab (hB.trans (hb3.mono hB.size)) (by simp[Act.put,hpre])
  ·go_simp
   rw[if_neg (by first|omega|(simp;omega))]
   go_simp
   first|exact hK _ _ _ rfl Ab HR.o rfl|exact kE hK HR.o
  ·go_simp
   rw[if_neg (by first|omega|(simp;omega))]
   go_simp
   first|exact hK _ _ _ rfl Ab HR.o rfl|exact kE hK HR.o
  ·go_simp
   first|exact hK _ _ _ rfl Ab HR.o rfl|exact kE hK HR.o|exact hK undef _ _ Ab Ab HR.o (by simp[Act.put,hpre])|exact hK _ _ _ Ab Ab HR.o rfl|exact kE hK HR.o
 rintro L U W hL hφ hR
 have e21:U 21=.string ⟨(60::(Aw f.tag++61::(sl++[62]))).toArray⟩:=hφ 21 (by decide)
 simp only[e21]
 clear hφ
 have Hb9:=Aa (Hbq.o.trans (hR.mono Hbq.o.size))
 clear hR
 go_wp2_with fail
 go_ret
 exact⟨by rw[HF4.o];rfl,Hb9.o⟩
theorem Qa(p:Value)(S:List Ty)(n:Nat)(k:Kd)(w:World)(hk:Co k)(h:¬(k.signs=[]/\k.base=[64])):
  Calls prog 162 #[p,Fv k] w (G0 (Cx S (n+1) k) w):=by
 unfold Fv
 cases hs:k.signs with
 |cons c t=>
  have hc:=Pz hk hs
  have hl:=hk.2.2
  unfold Bq at hl
  rw[hs]at hl
  rw[Nm _ _ k c t hs hc]
  exact Xs p c t _ _ w hc (by simp at hl;omega)
 |nil=>
  have hb:k.base≠[64]:=fun hb=>h ⟨hs,hb⟩
  rw[Ky _ _ k hs (Mk hk hs hb).2]
  exact Te p k.base _ w (Mk hk hs hb).2
theorem Qaf(p:Value)(xs:List PT)(hok:∀x∈xs,Dc x.ty)(hS:Fq (Ag xs)):∀(n:Nat),n<=9->∀(k:Kd) (w:World),Qn w p xs->Co k->Cb (Ag xs) k->Tw (Ag xs) n k ->
  Calls prog 162 #[p,Fv k] w (G0 (Cx (Ag xs) (n+1) k) w):=by
 intro n
 induction n with
 |zero=>
  intro _ k w hsc hk hr he
  refine Qa p _ 0 k w hk (fun h=>?_)
  obtain⟨t,_,h2⟩:=he h.1 h.2
  exact absurd h2 (by simp[Bt])
 |succ n ih=>
  intro hn k w hsc hk hr he
  by_cases hsb:k.signs=[]/\k.base=[64]
  ·obtain⟨hs,hb⟩:=hsb
   have h1:=hr hb
   rw[Gb]at h1
   cases hx:Ej xs k.name with
   |none=>rw[hx]at h1;cases h1
   |some x=>
    have hft:By (Ag xs) k.name=some x.ty:=(Dz hx).2.2
    have hto:Dc x.ty:=hok _ (Dz hx).1
    refine X8 p xs hok (n+1) k w hsc hk hs hb x hx hn (fun h85 f fs hfs W hW=>?_)
    have hrf:Cb (Ag xs) f.kind:=hS x.ty (Bs hft).1 (by rw[h85];decide) f (by rw[hfs];simp)
    have hkf:Co f.kind:=((hto.2.2.1.1 f (by rw[hfs];simp)).2.2.2.2 (by rw[h85];decide)).1
    exact ih (by omega) f.kind W hW hkf hrf (Rw he hs hb hft h85 hfs hrf)
  exact Qa p _ (n+1) k w hk hsb
theorem Qax(p:Value)(xs:List PT)(h:P5 (Ag xs))(k:Kd)(w:World)(hsc:Qn w p xs)(hk:Co k)(hr:Cb (Ag xs) k):
  Calls prog 162 #[p,Fv k] w (G0 (Qy (Ag xs) k) w):=
 Qaf p xs (fun x hx=>h.1.1 x.ty (List.mem_map_of_mem hx)) h.2.1 9 (Ap _) k w hsc hk hr (Xb h hr)
theorem Qh4(p:Value)(xs:List PT)(h:P5 (Ag xs))(f:Fd)(b o:Nat)(w:World)(hsc:Qn w p xs)(hf:w.rangeAt b o (Qs f))(hk:Co f.kind)(hr:Cb (Ag xs) f.kind)(hl:f.given.length<=1000):
  Calls prog 132 #[p,.pointer (some ⟨b,o,none⟩)] w (G0 (Re (Ag xs) f) w):=by
 have HF:=Aa (show Re (Ag xs) f=if f.given=[]then Qy (Ag xs) f.kind else f.given from rfl)
 have Hs:=Aa (fun W (h1:Qn W p xs)=>Qax p xs h f.kind W h1 hk hr)
 have Hsc:=Aa hsc
 unfold Fv at Hs
 have c2:w.cell? ⟨b,o+2,none⟩=some (.string ⟨f.kind.signs.toArray⟩):=Ac hf 2 rfl
 have c3:w.cell? ⟨b,o+3,none⟩=some (.string ⟨f.kind.base.toArray⟩):=Ac hf 3 rfl
 have c4:w.cell? ⟨b,o+4,none⟩=some (.string ⟨f.kind.name.toArray⟩):=Ac hf 4 rfl
 have c5:w.cell? ⟨b,o+5,none⟩=some (.string ⟨f.given.toArray⟩):=Ac hf 5 rfl
 have c3':w.cell? ⟨b,o+2+1,none⟩=some (.string ⟨f.kind.base.toArray⟩):=c3
 have c4':w.cell? ⟨b,o+2+1+1,none⟩=some (.string ⟨f.kind.name.toArray⟩):=c4
 have c4'':w.cell? ⟨b,o+2+2,none⟩=some (.string ⟨f.kind.name.toArray⟩):=c4
 clear h hk hr hsc hf
 by_cases hg:f.given=[]
 ·have HF2:=Aa (HF.o.trans (if_pos hg))
  rw[hg]at c5
  clear hg HF
  go_enter func132,ntmps132
  go_wp2_with fail
  refine(Hs.o _ Hsc.o).mono ?_
  rintro e w1 ⟨rfl,hb1⟩
  go_wp2_with fail
  go_ret
  exact⟨by rw[HF2.o];rfl,hb1⟩
 have HF2:=Aa (HF.o.trans (if_neg hg))
 have t1:f.given.isEmpty=false:=by simpa using hg
 have t2:(!f.given.isEmpty)=true:=by simp[t1]
 clear hg HF
 go_enter func132,ntmps132
 go_wp2_with fail
 go_ret
 exact⟨by rw[HF2.o];rfl,As _ _⟩
def Nx(w:World)(b:Nat)(p:Value)(R:Nat)(t:List UInt8)(bad:Bool)(W:World):Prop:=C4 w b p t bad W/\W.there R 0 4/\w.heap.size<=R/\R<W.heap.size
theorem Nx.post{w W W':World}{b R:Nat}{p:Value}{t:List UInt8}{bad:Bool}(h:Nx w b p R t bad W)(hb:Below W.heap.size W W'):Nx w b p R t bad W':=
 ⟨h.1.post hb,At h.2.1 h.2.2.2 hb,h.2.2.1,Nat.lt_of_lt_of_le h.2.2.2 hb.size⟩
theorem Nx.step{w W W':World}{b R:Nat}{p:Value}{t t':List UInt8}{bad bad':Bool}(h:Nx w b p R t bad W)(hb:b<w.heap.size)(hs:C4 W b p t' bad' W'):Nx w b p R t' bad' W':=
 ⟨h.1.trans hs,Gq h.2.1 hs.2 h.2.2.2 (by have:=h.2.2.1;simp;omega),h.2.2.1,Nat.lt_of_lt_of_le h.2.2.2 hs.2.size⟩
theorem C4.app{w W W':World}{b:Nat}{p:Value}{t:List UInt8}{bad:Bool}{row:Option Nat}(h:C4 w b p t bad W)(hb:b<w.heap.size)(hg:W.grownBy W' row)(hr:∀k,row=some k->w.heap.size<=k):C4 w b p t bad W':=by
 have hn:∀c,c<w.heap.size->some c≠row:=fun c hc e=>by have:=hr c e.symm;omega
 obtain⟨⟨h0,h1,h2,h3,h4⟩,hg0⟩:=h
 exact⟨⟨Nat.lt_of_lt_of_le h0 hg.size,h1.grown h0 hg (hn b hb),hg.cell h2 (hn b hb),hg.cell h3 (hn b hb),hg.cell h4 (hn b hb)⟩,⟨hg.os.trans hg0.os,hg.tape.trans hg0.tape,hg.output.trans hg0.output,Nat.le_trans hg0.size hg.size,fun k hk hne=>(hg.block k (Nat.lt_of_lt_of_le hk hg0.size) (hn k hk)).trans (hg0.block k hk hne)⟩⟩
theorem Nx.app{w W W':World}{b R:Nat}{p:Value}{t:List UInt8}{bad:Bool}{row:Option Nat}(h:Nx w b p R t bad W)(hb:b<w.heap.size)(hg:W.grownBy W' row)(hr:∀k,row=some k->R<k):Nx w b p R t bad W':=
 ⟨h.1.app hb hg fun k e=>by have:=hr k e;have:=h.2.2.1;omega,Gq h.2.1 hg h.2.2.2 (fun e=>by have:=hr R e.symm;omega),h.2.2.1,Nat.lt_of_lt_of_le h.2.2.2 hg.size⟩
theorem Nx.fin{w W w9:World}{b R:Nat}{p:Value}{t:List UInt8}{bad:Bool}{v:Vl}{sl:Value}(F:Nx w b p R t bad W)(hb:b<w.heap.size)(HS:w9=W.setCells R 0 (G6 v sl))(hv:D8 (fun c=>R<c) W sl v.kids):
  D8 (fun c=>w.heap.size<=c) w9 sl v.kids/\C4 w b p t bad w9/\w9.rangeAt R 0 (G6 v sl):=by
 subst HS
 have:=F.2.2.1
 exact⟨(hv.set (B:=R) (by omega) _).mono fun c hc _=>by omega,F.1.set (by omega) (by omega) _,World.rangeAt_setCells_same _ _ _ _ F.2.1⟩
def Qic(w0 w:World)(b:Nat)(p:Value)(t:List UInt8)(N:Nat)(fs:List Fd)(r:Option ((Fd × Vl) × List UInt8))(e:Ending)(w':World):Prop:=
 ∃(v:Vl) (sl fp:Value) (t':List UInt8),e=.returned (.tuple #[G1 v sl,fp])/\D8 (fun c=>w.heap.size<=c) w' sl v.kids/\C4 w b p t' r.isNone w'/\Bd v/\t'.length<=t.length/\(Az v).length+t'.length<=t.length+8*N /\
  ((fp=.pointer none/\r=none)\/∃g x,H5 w0.heap.size w' fp (some g)/\v=Dg (g,x)/\Bg fs g.tag=some g/\Bd x/\∀y,r=some y->y=((g,x),t'))
theorem H5.via{B:Nat}{w0 W W':World}{v:Value}{o:Option Fd}(h:H5 B W v o)(h1:Below B w0 W)(h2:Below B w0 W'):H5 B W' v o:=by
 cases o with
 |none=>exact h
 |some f=>
  obtain⟨b,o,e,hb,hr⟩:=h
  exact⟨b,o,e,hb,fun j u hu=>(h2.cell (p:=⟨b,o+j,none⟩) hb).trans ((h1.cell (p:=⟨b,o+j,none⟩) hb).symm.trans (hr j u hu))⟩
theorem Qad(fs:List Fd)(t:List UInt8):Fh fs t=if Fy 200 t then(Bg fs (Gx t)).map (fun f=>(f,t.dropWhile Ba))else none:=by
 unfold Fh
 rw[Qal]
 unfold Fy Gx
 cases h:Cf (t.takeWhile Ba)with
 |none=>simp
 |some n=>
  have:=(Bx.1 h).1
  simp only[decide_eq_true_eq,this,if_true,Option.getD_some]
  by_cases h2:n<=200
  ·rw[if_pos h2,if_pos h2];cases Bg fs n<;>rfl
  rw[if_neg h2,if_neg h2]
theorem Qcz(K:Kd->List UInt8->Option (Vl × List UInt8))(fs:List Fd)(t:List UInt8):Cr K fs t=match Bg fs (Gx t)with
  |none=>none
  |some f=>match Ax [61] (t.dropWhile Ba) (!Fy 200 t)with
   |none=>none
   |some q=>match K f.kind q with|some (v,z)=>some ((f,v),z)|none=>none:=by
 unfold Cr
 rw[Qad]
 simp only[B6]
 cases Fy 200 t<;>cases Bg fs (Gx t)<;>simp
 rfl
theorem Qg3(t:List UInt8)(h:Fy 200 t=true):(Aw (Gx t)).length+(t.dropWhile Ba).length=t.length:=by
 unfold Fy at h
 unfold Gx
 cases hd:Cf (t.takeWhile Ba)with
 |none=>rw[hd]at h;cases h
 |some n=>
  have e:=(Bx.1 hd).2
  simp only[Option.getD_some]
  rw[<-e,<-List.length_append,List.takeWhile_append_dropWhile]
theorem Qaq(w0:World)(b N:Nat)(p:Value)(S:List Ty)(x:PT)(hx:Qv w0 x)(t:List UInt8)(w:World)(hw:Below w0.heap.size w0 w)(hb:w0.heap.size<=b)(bad:Bool)(h:Fs w b p t bad)(hl:t.length<=900)(hN:bad=false->t.length<=N)(hN2:N<=2000)
  (htg:∀f∈x.ty.fields,f.tag<=200) (H:∀f∈x.ty.fields,IvC w0 b p S N f.kind) (q:Option ((Fd × Vl) × List UInt8)) (hq:q=if bad then none else Cr (Ai S 1000 N) x.ty.fields t):
  Calls prog 131 #[.pointer (some ⟨b,0,none⟩),.pointer (some ⟨x.blk,0,none⟩)] w (Qic w0 w b p t N x.ty.fields q):=by
 have HQ:=Aa (hq.trans (by rw[Qcz]))
 have Hnl:=Aa (Qg3 t)
 have HS:=Aa h
 have HW:=Aa hw
 have hb0:=h.1
 have hbn:¬(b=w.heap.size):=by omega
 have hnn:=Yg t
 have hdr:=Yo Ba t
 have Hn:=Aa (fun W (h:Fs W b p t bad)=>Na b 200 p t bad W h (by omega) (by decide))
 have Hf:=Aa (fun W (hW:Below w0.heap.size w0 W)=>Tk w0 x hx (Gx t) W hW (by omega))
 have hxb:x.blk<w0.heap.size:=hx.1
 clear h hw hq
 obtain⟨b1,hb1⟩:∃b1,b1=(bad || !Fy 200 t):=⟨_,rfl⟩
 have Hb1:=Aa hb1
 rw[<-hb1]at Hn
 generalize t.dropWhile Ba=t1 at *
 have hm:=Ea 61 t1 b1
 have Hwt:=Aa (fun W (h:Fs W b p t1 b1)=>C0 b p t1 [61] b1 W h (by omega))
 have Hlt0:=Aa (fun r (h:Ax [61] t1 b1=some r)=>Jh h)
 clear hb1
 cases hfo:Bg x.ty.fields (Gx t)with
 |none=>
  rw[hfo]at Hf HQ
  have hq0:=Aa (show q=none from by have:=HQ.o;cases bad<;>simpa using this)
  generalize Gx t=n at *
  generalize (Ax [61] t1 b1).getD t1=t2 at *
  generalize (Ax [61] t1 b1).isNone=b2 at *
  clear hfo HQ Hnl
  go_enter func131,ntmps131
  go_wp2_with fail
  have F0:=Aa (show Nx w b p w.heap.size t bad (w.alloc (.cells #[.int .u8 0,.string ⟨#[]⟩,.int .i64 0,.slice none 0 0] 42))from⟨⟨HS.o.grow ((As _ _).alloc (Ap _) _),Cp ((As _ _).alloc (Ap _) _) _⟩,Cw w [.int .u8 0,.string ⟨#[]⟩,.int .i64 0,.slice none 0 0] _,Ap _,by simp⟩)
  refine(Hn.o _ F0.o.1.1).mono ?_
  rintro e w2 ⟨rfl,hs2⟩
  have F2:=Aa (F0.o.step hb0 hs2)
  clear hs2
  go_wp2_with fail
  refine(Hf.o _ (F2.o.1.env HW.o hb)).mono ?_
  rintro e w3 ⟨fp,rfl,hfp,rfl⟩
  have hfp':fp=.pointer none:=hfp
  subst hfp'
  go_wp2_with fail
  refine(Hwt.o _ F2.o.1.1).mono ?_
  rintro e w4 ⟨rfl,hs4⟩
  have F4:=Aa (F2.o.step hb0 hs4)
  clear hs4
  have sb:=F4.o.1.1.2.1.live 2
  have s0:=F4.o.1.1.1
  have s2:=F4.o.1.1.2.2.2.2
  have F5:=Aa (F4.o.step hb0 ⟨F4.o.1.1.setBad true,Bc _ b 2 (.bool true)⟩)
  go_wp2_with ((with_reducible refine Ad (op:=⟨none,.store 42 _ _,_,_,_,none⟩) rfl 42 _ _ rfl w.heap.size 0 [.int .u8 0,.string ⟨#[]⟩,.int .i64 0,.slice none 0 0] ?_ ?_ ?_ ?_ ?_ ?_);rfl;rfl;(exact F5.o.2.1);kernel_rfl;(simp[Value.oneCell']);intro w9 HS9)
  have Z:=Nx.fin (v:=Fi) (sl:=.slice none 0 0) F5.o hb0 HS9.o (D8.nil _ _)
  refine bodyPost_ret (v:=.tuple #[.agg (G6 Fi (.slice none 0 0)).toArray,.pointer none]) (Ao results131 _ _ w.heap.size _ _ _ rfl rfl Z.2.2 underlying42 rfl (by kernel_rfl)) rfl ?_
  exact⟨Fi,.slice none 0 0,.pointer none,t2,rfl,Z.1,by rw[hq0.o];exact Z.2.1,El (by decide) (by decide),by omega,by simp[Fi,Az,Dx,E8];omega,.inl ⟨rfl,hq0.o⟩⟩
 |some g=>
  obtain⟨hgt,hgm⟩:=Bk hfo
  have hg2:=htg g hgm
  have Hfg:=Aa (show Bg x.ty.fields g.tag=some g by rw[hgt];exact hfo)
  rw[hfo]at Hf HQ
  simp only at HQ
  have HH:=Aa (H g hgm)
  cases hc:Ax [61] t1 b1 with
  |none=>
   have hq0:=Aa (show q=none from by
    rw[HQ.o]
    cases bad with
    |true=>rfl
    |false=>rw[if_neg (by decide)];rw[show Ax [61] t1 (!Fy 200 t)=none by have:=Hb1.o;rw[Bool.false_or]at this;rw[<-this];exact hc])
   rw[hc]at Hwt
   simp only[Option.isNone_none,Option.getD_none]at Hwt
   generalize Gx t=n at *
   clear hfo HQ Hnl hc hm
   subst hgt
   obtain⟨b2,hb2⟩:∃b2,b2=true:=⟨_,rfl⟩
   rw[<-hb2]at Hwt
   go_enter func131,ntmps131
   go_wp2_with fail
   have F0:=Aa (show Nx w b p w.heap.size t bad (w.alloc (.cells #[.int .u8 0,.string ⟨#[]⟩,.int .i64 0,.slice none 0 0] 42))from⟨⟨HS.o.grow ((As _ _).alloc (Ap _) _),Cp ((As _ _).alloc (Ap _) _) _⟩,Cw w [.int .u8 0,.string ⟨#[]⟩,.int .i64 0,.slice none 0 0] _,Ap _,by simp⟩)
   refine(Hn.o _ F0.o.1.1).mono ?_
   rintro e w2 ⟨rfl,hs2⟩
   have F2:=Aa (F0.o.step hb0 hs2)
   clear hs2
   go_wp2_with fail
   refine(Hf.o _ (F2.o.1.env HW.o hb)).mono ?_
   rintro e w3 ⟨fp,rfl,hfp,rfl⟩
   obtain⟨fb,fo,rfl,hfb,hfr⟩:=hfp
   go_wp2_with fail
   refine(Hwt.o _ F2.o.1.1).mono ?_
   rintro e w4 ⟨rfl,hs4⟩
   have F4:=Aa (F2.o.step hb0 hs4)
   clear hs4
   have sb:=F4.o.1.1.2.1.live 2
   have s0:=F4.o.1.1.1
   have s2:=F4.o.1.1.2.2.2.2
   have F5:=Aa (F4.o.step hb0 ⟨F4.o.1.1.setBad true,Bc _ b 2 (.bool true)⟩)
   subst hb2
   go_wp2_with ((with_reducible refine Ad (op:=⟨none,.store 42 _ _,_,_,_,none⟩) rfl 42 _ _ rfl w.heap.size 0 [.int .u8 0,.string ⟨#[]⟩,.int .i64 0,.slice none 0 0] ?_ ?_ ?_ ?_ ?_ ?_);rfl;rfl;(exact F5.o.2.1);kernel_rfl;(simp[Value.oneCell']);intro w9 HS9)
   have Z:=Nx.fin (v:=Fi) (sl:=.slice none 0 0) F5.o hb0 HS9.o (D8.nil _ _)
   refine bodyPost_ret (v:=.tuple #[.agg (G6 Fi (.slice none 0 0)).toArray,.pointer none]) (Ao results131 _ _ w.heap.size _ _ _ rfl rfl Z.2.2 underlying42 rfl (by kernel_rfl)) rfl ?_
   exact⟨Fi,.slice none 0 0,.pointer none,t1,rfl,Z.1,by rw[hq0.o];exact Z.2.1,El (by decide) (by decide),by omega,by simp[Fi,Az,Dx,E8];omega,.inl ⟨rfl,hq0.o⟩⟩
  |some t2=>
   have hlt:=Hlt0.o t2 hc
   have hbb:bad=false/\b1=false/\Fy 200 t=true:=by
    have h1:b1=false:=by
     cases b1 with
     |false=>rfl
     |true=>rw[B6]at hc;simp at hc
    have h2:=Hb1.o
    rw[h1]at h2
    cases bad<;>cases hnb:Fy 200 t<;>simp[hnb]at h2 ⊢
    exact h1
   obtain⟨rfl,rfl,hnb⟩:=hbb
   have hnl:=Hnl.o hnb
   rw[hgt.symm]at hnl
   have hq0:=Aa (show q=(match Ai S 1000 N g.kind t2 with|some (v,z)=>some ((g,v),z)|none=>none)from by
    rw[HQ.o,if_neg (by decide),hnb]
    show (match Ax [61] t1 false with|none=>none|some q=>match Ai S 1000 N g.kind q with|some (v,z)=>some ((g,v),z)|none=>none)=_
    rw[hc])
   rw[hc]at Hwt
   simp only[Option.isNone_some,Option.getD_some]at Hwt
   have h2N:t2.length<N:=by have:=hN rfl;omega
   generalize Gx t=n at *
   clear hfo HQ Hnl hc hm Hb1 hnb Hlt0
   subst hgt
   go_enter func131,ntmps131
   go_wp2_with fail
   have F0:=Aa (show Nx w b p w.heap.size t false (w.alloc (.cells #[.int .u8 0,.string ⟨#[]⟩,.int .i64 0,.slice none 0 0] 42))from⟨⟨HS.o.grow ((As _ _).alloc (Ap _) _),Cp ((As _ _).alloc (Ap _) _) _⟩,Cw w [.int .u8 0,.string ⟨#[]⟩,.int .i64 0,.slice none 0 0] _,Ap _,by simp⟩)
   refine(Hn.o _ F0.o.1.1).mono ?_
   rintro e w2 ⟨rfl,hs2⟩
   have F2:=Aa (F0.o.step hb0 hs2)
   clear hs2
   go_wp2_with fail
   refine(Hf.o _ (F2.o.1.env HW.o hb)).mono ?_
   rintro e w3 ⟨fp,rfl,hfp,rfl⟩
   obtain⟨fb,fo,rfl,hfb,hfr⟩:=hfp
   go_wp2_with fail
   refine(Hwt.o _ F2.o.1.1).mono ?_
   rintro e w4 ⟨rfl,hs4⟩
   have F4:=Aa (F2.o.step hb0 hs4)
   clear hs4
   have HFR:=Aa (show H5 w0.heap.size w4 (.pointer (some ⟨fb,fo,none⟩)) (some g)from H5.via ⟨fb,fo,rfl,hfb,hfr⟩ (F2.o.1.env HW.o hb) (F4.o.1.env HW.o hb))
   have G4:=Aa (show w4.rangeAt fb fo (Qs g)from by obtain⟨a1,a2,a3,_,a5⟩:=HFR.o;injection a3 with a3;injection a3 with a3;injection a3 with a3 a4;subst a3 a4;exact a5)
   have s2:=F4.o.1.1.2.2.2.2
   have g2:=Ac G4.o 2 rfl
   have g3:=Ac G4.o 3 rfl
   have g4:=Ac G4.o 4 rfl
   have g3':w4.cell? ⟨fb,fo+2+1,none⟩=some (.string ⟨g.kind.base.toArray⟩):=g3
   have g4':w4.cell? ⟨fb,fo+2+1+1,none⟩=some (.string ⟨g.kind.name.toArray⟩):=g4
   have g4'':w4.cell? ⟨fb,fo+2+2,none⟩=some (.string ⟨g.kind.name.toArray⟩):=g4
   clear hfr
   have HV:=Aa (fun W (h1:Below w0.heap.size w0 W) (h2:Fs W b p t2 false)=>HH.o t2 false W h1 h2 (by omega) (fun _=>h2N))
   unfold Fv at HV
   simp only[Bool.false_eq_true,if_false]at HV
   go_wp2_with fail
   refine(HV.o _ (F4.o.1.env HW.o hb) F4.o.1.1).mono ?_
   rintro e w5 ⟨v,sl,t',rfl,hk5,hs5,hx5,hB5,hl5,hn5⟩
   obtain⟨A7,c7,rfl⟩:=hk5.form
   have F5:=Aa (F4.o.step hb0 hs5)
   have Hk5:=Aa hk5
   have Hx5:=Aa hx5
   have HB5:=Aa hB5
   have hz4:=F4.o.2.2.2
   clear hs5 hk5 hx5 hB5 g2 g3 g4 g3' g4' g4'' s2
   unfold G1
   go_wp2_with fail
   obtain⟨W6,hW6⟩:∃W6,W6=w5.alloc (.cells #[.int .u8 (v.what.toNat:Int),.string ⟨v.text.toArray⟩,.int .i64 (v.tag:Int),.slice A7 v.kids.length c7] 42):=⟨_,rfl⟩
   rw[<-hW6]
   have hb6:Below w5.heap.size w5 W6:=by rw[hW6];exact(As _ _).alloc (Ap _) _
   have F6:=Aa (F5.o.post hb6)
   have HP6:=Aa (HFR.o.via (F4.o.1.env HW.o hb) (F6.o.1.env HW.o hb))
   have X6:=Aa (show W6.rangeAt w5.heap.size 0 [.int .u8 (v.what.toNat:Int),.string ⟨v.text.toArray⟩,.int .i64 (v.tag:Int),.slice A7 v.kids.length c7]from by rw[hW6];exact Ck w5 [.int .u8 (v.what.toNat:Int),.string ⟨v.text.toArray⟩,.int .i64 (v.tag:Int),.slice A7 v.kids.length c7] _)
   have Hk6:=Aa (Hk5.o.after hb6)
   have hz6:w5.heap.size<W6.heap.size:=by rw[hW6];simp
   have HW6:=Aa (F6.o.1.env HW.o hb)
   have hz5:=F5.o.2.2.2
   generalize w5.heap.size=B7 at *
   clear hW6 hb6
   have D0:=Aa (show W6.cell? ⟨fb,fo,none⟩=some (.int .i64 (g.tag:Int))from by obtain⟨a1,a2,a3,_,a5⟩:=HP6.o;injection a3 with a3;injection a3 with a3;injection a3 with a3 a4;subst a3 a4;simpa using Ac a5 0 rfl)
   refine Be [32,33,34,35,36,37,38,39,999,5] (by kernel_rfl) (by kernel_rfl) (by kernel_rfl) (fun u=>by dsimp only[Br,Bi,List.set,Nat.zero_add,Nat.reduceAdd])
    (fun ix u W=>match ix with|0=>u=.pointer (some ⟨fb,fo,none⟩)|1=>u=.pointer (some ⟨fb,fo,none⟩)|2=>u=.pointer (some ⟨fb,fo,none⟩)|3=>u=.int .i64 (g.tag:Int)|4=>u=.agg #[.int .u8 (v.what.toNat:Int),.string ⟨v.text.toArray⟩,.int .i64 (v.tag:Int),.slice A7 v.kids.length c7]|5=>∃c,u=.slice (some ⟨c,0,none⟩) 1 1|6=>∃c,u=.agg #[.int .u8 61,.string ⟨#[]⟩,.int .i64 (g.tag:Int),.slice (some ⟨c,0,none⟩) 1 1]|7=>u=.pointer (some ⟨fb,fo,none⟩)|9=>u=.pointer (some ⟨fb,fo,none⟩)|_=>True)
    (fun L U W=>(L 8=false->Below W6.heap.size W6 W)/\(L 5=true->L 8=false->∃W7,W=W7.alloc (.cells (Jk (v,.slice A7 v.kids.length c7)).toArray 42)/\U 5=.slice (some ⟨W7.heap.size,0,none⟩) 1 1/\Below W6.heap.size W6 W7)/\(L 6=true->U 6=.agg #[.int .u8 61,.string ⟨#[]⟩,.int .i64 (g.tag:Int),U 5]) /\
  (L 8=true->∃W7,W=(W7.alloc (.cells (Jk (v,.slice A7 v.kids.length c7)).toArray 42)).setCells w.heap.size 0 [.int .u8 61,.string ⟨#[]⟩,.int .i64 (g.tag:Int),.slice (some ⟨W7.heap.size,0,none⟩) 1 1]/\Below W6.heap.size W6 W7)) (fun _ _=>True) (fun _ _ _ _ _ h=>h) (⟨fun _=>(As _ _).drew,fun h=>Bool.noConfusion h,fun h=>Bool.noConfusion h,fun h=>Bool.noConfusion h⟩) ?_ ?_
   ·repeat (first|exact Aq.nil|(refine Aq.cons ?_ ?_;rotate_left))
    all_goals
     rintro L U W hL hpre hR hun hdep K hK
     have HR:=Aa hR
     obtain⟨R1,R2,R3,R4⟩:=HR.o
     have Hdep:=Aa hdep
     clear hun hdep hR
     first|(simp[Region.binds]at hpre;done)|simp[Region.binds]at hpre|clear hpre
    iterate 3
     ·go_simp
      first|exact hK _ _ _ rfl Ab HR.o rfl|exact kE hK HR.o|exact hK undef _ _ Ab Ab HR.o (by simp[Act.put,hpre])|exact hK _ _ _ Ab Ab HR.o rfl|exact kE hK HR.o
    ·have h6:L 6=false:=Bz Hdep.o 6 3 rfl hL
     have h8:L 8=false:=Bz Hdep.o 8 6 rfl h6
     have m0:=((R1 h8).cell (p:=⟨fb,fo,none⟩) (by have:=HW6.o.size;show fb<_;omega)).trans D0.o
     go_simp
     first|exact hK _ _ _ rfl Ab HR.o rfl|exact kE hK HR.o
    ·have h5:L 5=false:=Bz Hdep.o 5 4 rfl hL
     have h6:L 6=false:=Bz Hdep.o 6 5 rfl h5
     have h8:L 8=false:=Bz Hdep.o 8 6 rfl h6
     have m0:=((R1 h8).cell (p:=⟨B7,0,none⟩) hz6).trans (X6.o 0 _ rfl)
     have m1:=((R1 h8).cell (p:=⟨B7,1,none⟩) hz6).trans (X6.o 1 _ rfl)
     have m2:=((R1 h8).cell (p:=⟨B7,2,none⟩) hz6).trans (X6.o 2 _ rfl)
     have m3:=((R1 h8).cell (p:=⟨B7,3,none⟩) hz6).trans (X6.o 3 _ rfl)
     go_simp
     first|exact hK _ _ _ rfl Ab HR.o rfl|exact kE hK HR.o
    ·have h6:L 6=false:=Bz Hdep.o 6 5 rfl hL
     have h8:L 8=false:=Bz Hdep.o 8 6 rfl h6
     have hba:Below W.heap.size W (W.alloc (.cells (Jk (v,.slice A7 v.kids.length c7)).toArray 42)):=(As _ _).alloc (Ap _) _
     have u4:=hpre.2
     go_simp
     exact hK (.slice (some ⟨W.heap.size,0,none⟩) 1 1) _ _ ⟨W.heap.size,rfl⟩ Ab ⟨fun _=>(R1 h8).trans (hba.mono (R1 h8).size),fun _ _=>⟨W,rfl,rfl,R1 h8⟩,fun h=>absurd (h6.symm.trans (by simpa using h)) (by decide),fun h=>absurd (h8.symm.trans (by simpa using h)) (by decide)⟩ (by simp[Act.put,hpre])
    ·obtain⟨c,u5⟩:=hpre.2.2
     have u3:=hpre.1.2
     go_simp
     exact hK (.agg #[.int .u8 61,.string ⟨#[]⟩,.int .i64 (g.tag:Int),U 5]) _ _ ⟨c,by rw[u5]⟩ Ab ⟨R1,R2,fun _=>rfl,fun h=>R4 (by simpa using h)⟩ (by simp[Act.put,u3,u5])
    ·go_simp
     first|exact hK _ _ _ rfl Ab HR.o rfl|exact kE hK HR.o|exact hK undef _ _ Ab Ab HR.o (by simp[Act.put,hpre])|exact hK _ _ _ Ab Ab HR.o rfl|exact kE hK HR.o
    ·obtain⟨⟨l6,_⟩,_⟩:=hpre
     have u6:=R3 l6
     have l5:L 5=true:=by
      cases h5:L 5 with
      |true=>rfl
      |false=>exact absurd (l6.symm.trans (Bz Hdep.o 6 5 rfl h5)) (by decide)
     obtain⟨W7,rfl,u5,hb7⟩:=R2 l5 hL
     rw[u5]at u6
     rw[if_pos (by rfl)]
     refine wp_store_mid 42 _ _ rfl w.heap.size 0 ([.int .u8 61,.string ⟨#[]⟩,.int .i64 (g.tag:Int),.slice (some ⟨W7.heap.size,0,none⟩) 1 1]:List Value).toArray rfl u6 ((F6.o.post hb7).post ((As _ _).alloc (Ap _) _)).2.1 (by kernel_rfl) (by simp[Value.oneCell']) ?_
     exact hK undef _ _ Ab Ab ⟨fun h=>by simp at h,fun _ h=>by simp at h,fun _=>by show U 6=.agg #[.int .u8 61,.string ⟨#[]⟩,.int .i64 (g.tag:Int),U 5];rw[u5];exact u6,fun _=>⟨W7,rfl,hb7⟩⟩ rfl
    ·clear R1 R2 R3 R4
     go_simp
     exact hK (.pointer (some ⟨fb,fo,none⟩)) _ _ rfl Ab HR.o (by simp[Act.put,hpre])
   rintro L U W hL hφ hR
   have hφ9:=hφ 9 (by decide)
   clear hφ
   have e9:U 9=.pointer (some ⟨fb,fo,none⟩):=hφ9
   obtain⟨_,_,_,h4⟩:=hR
   obtain⟨W7,rfl,hb7⟩:=h4 (hL 8 (by decide))
   clear hL h4
   simp only[e9]
   clear hφ9
   go_wp2_with fail
   have F7:=Aa (F6.o.post hb7)
   have Hk7:=Aa (Hk6.o.after hb7)
   have hz7:=F7.o.2.2.2
   have Z:=Nx.fin (v:=Dg (g,v)) (sl:=.slice (some ⟨W7.heap.size,0,none⟩) 1 1) (F7.o.post ((As _ _).alloc (Ap _) (.cells (Jk (v,.slice A7 v.kids.length c7)).toArray 42))) hb0 rfl (Hk7.o.one (T:=42) (fun c hc _=>by omega) (by omega))
   have HPz:=HP6.o.via (F6.o.1.env HW.o hb) (Z.2.1.env HW.o hb)
   refine bodyPost_ret (v:=.tuple #[.agg (G6 (Dg (g,v)) (.slice (some ⟨W7.heap.size,0,none⟩) 1 1)).toArray,.pointer (some ⟨fb,fo,none⟩)]) (Ao results131 _ _ w.heap.size _ _ _ rfl rfl Z.2.2 underlying42 rfl (by kernel_rfl)) rfl ?_
   have hx9:=Hx5.o
   refine⟨Dg (g,v),_,_,t',rfl,Z.1,?_,.mk (show g.tag<=1000000000 by omega) (by simp[Cu];omega) (by simp) (fun y hy=>by rw[List.mem_singleton]at hy;subst hy;exact HB5.o),by omega,by rw[Pb];simp only;omega,.inr ⟨g,v,HPz,rfl,Hfg.o,HB5.o,?_⟩⟩
   ·have e:q.isNone=(Ai S 1000 N g.kind t2).isNone:=by rw[hq0.o];cases Ai S 1000 N g.kind t2<;>rfl
    rw[e];exact Z.2.1
   intro y hy
   rw[hq0.o]at hy
   cases hr:Ai S 1000 N g.kind t2 with
   |none=>rw[hr]at hy;cases hy
   |some z=>
    obtain⟨z1,z2⟩:=z
    rw[hr]at hy
    simp only[Option.some.injEq]at hy
    obtain⟨e1,e2⟩:=hx9 _ hr
    simp only at e1 e2
    rw[<-hy,e1,e2]
structure Vb(B:Nat)(W:World)(h0 h1 h2 h3:Value):Prop where
 lt:B<W.heap.size
 bk:Py W B
 c0:W.cell? ⟨B,0,none⟩=some h0
 c1:W.cell? ⟨B,1,none⟩=some h1
 c2:W.cell? ⟨B,2,none⟩=some h2
 c3:W.cell? ⟨B,3,none⟩=some h3
theorem Vb.new{w:World}{h0 h1 h2 h3:Value}{T:TypeId}:Vb w.heap.size (w.alloc (.cells #[h0,h1,h2,h3] T)) h0 h1 h2 h3:=⟨by simp,Py.new _ _ _,by simp,by simp,by simp,by simp⟩
theorem Vb.grown{B:Nat}{W W':World}{h0 h1 h2 h3:Value}{row:Option Nat}(h:Vb B W h0 h1 h2 h3)(hg:W.grownBy W' row)(hn:some B≠row):Vb B W' h0 h1 h2 h3:=
 ⟨Nat.lt_of_lt_of_le h.lt hg.size,h.bk.grown h.lt hg hn,hg.cell h.c0 hn,hg.cell h.c1 hn,hg.cell h.c2 hn,hg.cell h.c3 hn⟩
theorem Vb.after{B:Nat}{W W':World}{h0 h1 h2 h3:Value}(h:Vb B W h0 h1 h2 h3)(hb:Below W.heap.size W W'):Vb B W' h0 h1 h2 h3:=h.grown (Cp hb none) (by simp)
theorem Vb.set2{B:Nat}{W:World}{h0 h1 h2 h3:Value}(h:Vb B W h0 h1 h2 h3)(v:Value):Vb B (W.setCell ⟨B,2,none⟩ v) h0 h1 v h3:=by
 have hf:=h.bk.live 2
 exact⟨by simpa using h.lt,h.bk.set _,by simp[go_sem,h.c0],by simp[go_sem,h.c1],by simp[go_sem,h.c2,hf],by simp[go_sem,h.c3]⟩
theorem Vb.set3{B:Nat}{W:World}{h0 h1 h2 h3:Value}(h:Vb B W h0 h1 h2 h3)(v:Value):Vb B (W.setCell ⟨B,3,none⟩ v) h0 h1 h2 v:=by
 have hf:=h.bk.live 3
 exact⟨by simpa using h.lt,h.bk.set _,by simp[go_sem,h.c0],by simp[go_sem,h.c1],by simp[go_sem,h.c2],by simp[go_sem,h.c3,hf]⟩
theorem Nx.init{w:World}{b:Nat}{p:Value}{t:List UInt8}{bad:Bool}(h:Fs w b p t bad){T:TypeId}:Nx w b p w.heap.size t bad (w.alloc (.cells #[.int .u8 0,.string ⟨#[]⟩,.int .i64 0,.slice none 0 0] T)):=
 ⟨⟨h.grow ((As _ _).alloc (Ap _) _),Cp ((As _ _).alloc (Ap _) _) _⟩,Cw w [.int .u8 0,.string ⟨#[]⟩,.int .i64 0,.slice none 0 0] _,Ap _,by simp⟩
theorem Qhp(fs:List Fd)(t:List UInt8)(t1 t2:List UInt8)(b1 b2:Bool)(h1:t1=(Ax [35] t false).getD t)(hb1:b1=(Ax [35] t false).isNone)(h2:t2=t1.dropWhile Ba)(hb2:b2=(b1 || !Fy 200 t1)):
  (match Am 35 t with
   |none=>none
   |some r=>match Fh fs r with|some (f,q)=>some (Vl.mk 69 [] f.tag [],q)|none=>none)=if b2 || (Bg fs (Gx t1)).isNone then none else some (.mk 69 [] (Gx t1) [],t2):=by
 rw[B6]at h1 hb1
 simp only[Bool.false_eq_true,if_false]at h1 hb1
 cases hy:Am 35 t with
 |none=>rw[hy]at hb1;simp at hb1;subst hb1 hb2;simp
 |some r=>
  rw[hy]at h1 hb1
  simp at h1 hb1
  subst h1 hb1 h2 hb2
  simp only[Qad]
  cases Fy 200 t1 with
  |false=>simp
  |true=>
   simp only[if_true,Bool.false_or,Bool.not_true]
   cases hf:Bg fs (Gx t1)with
   |none=>simp
   |some f=>have:=(Bk hf).1;simp[this]
theorem Qgu(w0:World)(b N:Nat)(p:Value)(S:List Ty)(x:PT)(hx:Qv w0 x)(h9:x.ty.sort=69)(t:List UInt8)(w:World)(hw:Below w0.heap.size w0 w)(hb:w0.heap.size<=b)(h:Fs w b p t false)(hl:t.length<=900)
  (q:Option (Vl × List UInt8)) (hq:q=Jl S (Ai S 1000 N) x.ty t):
  Calls prog 100 #[.pointer (some ⟨b,0,none⟩),.pointer (some ⟨x.blk,0,none⟩)] w (J2 w b p t (N+1) q):=by
 have HQ:=Aa (hq.trans (by unfold Jl;rw[if_pos h9]))
 have HS:=Aa h
 have HW:=Aa hw
 have hb0:=h.1
 have hx0:=hx.1
 have x0:=(hw.cell (p:=⟨x.blk,0,none⟩) hx0).trans hx.2.2.1
 have hxw:x.blk<w.heap.size:=by have:=hw.size;omega
 have hxn:¬(x.blk=w.heap.size):=by have:=hw.size;omega
 have hxn2:¬(x.blk=w.heap.size+1):=by have:=hw.size;omega
 rw[h9]at x0
 have x0':w.cell? ⟨x.blk,0,none⟩=some (.int .u8 69):=x0
 clear x0
 have hm:=Ea 35 t false
 have Hwt:=Aa (fun W (h:Fs W b p t false)=>C0 b p t [35] false W h (by omega))
 obtain⟨t1,ht1⟩:∃t1,t1=(Ax [35] t false).getD t:=⟨_,rfl⟩
 obtain⟨b1,hb1⟩:∃b1,b1=(Ax [35] t false).isNone:=⟨_,rfl⟩
 have HQ2:=Aa (HQ.o.trans (Qhp x.ty.fields t t1 (t1.dropWhile Ba) b1 (b1 || !Fy 200 t1) ht1 hb1 rfl rfl))
 rw[<-ht1]at hm
 rw[<-ht1,<-hb1]at Hwt
 have Hn:=Aa (fun W (h:Fs W b p t1 b1)=>Na b 200 p t1 b1 W h (by omega) (by decide))
 have hnn:=Yg t1
 have hdr:=Yo Ba t1
 have Hf:=Aa (fun W (hW:Below w0.heap.size w0 W)=>Tk w0 x hx (Gx t1) W hW (by omega))
 have hdl:=Ds 5 (Gx t1) (by have e:10 ^ (5+1)=1000000:=rfl;omega)
 generalize (b1 || !Fy 200 t1)=b2 at *
 generalize t1.dropWhile Ba=t2 at *
 generalize Gx t1=n at *
 clear ht1 hb1 h hw hq h9 HQ
 go_enter func100,ntmps100
 go_wp2_with fail
 have F1:=Aa ((Nx.init HS.o (T:=42)).post ((As _ _).alloc (Ap _) (.cells #[.int .u8 69,.string ⟨#[]⟩,.int .i64 0,.slice none 0 0] 42)))
 have V1:=Aa (show Vb (w.heap.size+1) _ _ _ _ _ from by have:=Vb.new (w:=w.alloc (.cells #[.int .u8 0,.string ⟨#[]⟩,.int .i64 0,.slice none 0 0] 42)) (h0:=.int .u8 69) (h1:=.string ⟨#[]⟩) (h2:=.int .i64 0) (h3:=.slice none 0 0) (T:=42);simpa using this)
 refine(Hwt.o _ F1.o.1.1).mono ?_
 rintro e w2 ⟨rfl,hs2⟩
 have F2:=Aa (F1.o.step hb0 hs2)
 have V2:=Aa (V1.o.grown hs2.2 (by simp;omega))
 clear hs2 F1 V1
 go_wp2_with fail
 refine(Hn.o _ F2.o.1.1).mono ?_
 rintro e w3 ⟨rfl,hs3⟩
 have F3:=Aa (F2.o.step hb0 hs3)
 have V3:=Aa (V2.o.grown hs3.2 (by simp;omega))
 clear hs3 F2 V2
 have c2:=V3.o.c2
 have f2:=V3.o.bk.live 2
 have l2:=V3.o.lt
 go_wp2_with fail
 have F4:=Aa (F3.o.app hb0 (Bc w3 (w.heap.size+1) 2 (.int .i64 (n:Int))) (fun k e=>by injection e with e;omega))
 have V4:=Aa (V3.o.set2 (.int .i64 (n:Int)))
 refine(Hf.o _ (F4.o.1.env HW.o hb)).mono ?_
 rintro e w4 ⟨fp,rfl,hfp,rfl⟩
 cases hfo:Bg x.ty.fields n with
 |some g=>
  rw[hfo]at hfp HQ2
  obtain⟨fb,fo,rfl,_,_⟩:=hfp
  have d0:=V4.o.c0
  have d1:=V4.o.c1
  have d2:=V4.o.c2
  have d3:=V4.o.c3
  clear hfo c2 f2 l2
  generalize w3.setCell ⟨w.heap.size+1,2,none⟩ (.int .i64 (n:Int))=w4 at *
  go_wp2_with ((with_reducible refine Ad (op:=⟨none,.store 42 _ _,_,_,_,none⟩) rfl 42 _ _ rfl w.heap.size 0 [.int .u8 69,.string ⟨#[]⟩,.int .i64 (n:Int),.slice none 0 0] ?_ ?_ ?_ ?_ ?_ ?_);rfl;rfl;(exact F4.o.2.1);kernel_rfl;(simp[Value.oneCell']);intro w9 HS9)
  have Z:=Nx.fin (v:=.mk 69 [] n []) (sl:=.slice none 0 0) F4.o hb0 HS9.o (D8.nil _ _)
  refine bodyPost_ret (v:=.agg (G6 (.mk 69 [] n []) (.slice none 0 0)).toArray) (Ay results100 _ _ w.heap.size _ _ rfl Z.2.2 underlying42 rfl (by kernel_rfl)) rfl ⟨.mk 69 [] n [],_,t2,rfl,Z.1,?_,?_,El (by omega) (by decide),by omega,by simp[Az,Dx,E8];omega⟩
  ·rw[HQ2.o];cases b2<;>exact Z.2.1
  rw[HQ2.o];cases b2<;>simp
 |none=>
  rw[hfo]at hfp HQ2
  have hfp':fp=.pointer none:=hfp
  subst hfp'
  have s2:=F4.o.1.1.2.2.2.2
  have sb:=F4.o.1.1.2.1.live 2
  have s0:=F4.o.1.1.1
  clear hfo c2 f2 l2
  generalize w3.setCell ⟨w.heap.size+1,2,none⟩ (.int .i64 (n:Int))=w4 at *
  have F5:=Aa (F4.o.step hb0 ⟨F4.o.1.1.setBad true,Bc _ b 2 (.bool true)⟩)
  have V5:=Aa (V4.o.grown (Bc w4 b 2 (.bool true)) (by simp;omega))
  have d0:=V5.o.c0
  have d1:=V5.o.c1
  have d2:=V5.o.c2
  have d3:=V5.o.c3
  go_wp2_with ((with_reducible refine Ad (op:=⟨none,.store 42 _ _,_,_,_,none⟩) rfl 42 _ _ rfl w.heap.size 0 [.int .u8 69,.string ⟨#[]⟩,.int .i64 (n:Int),.slice none 0 0] ?_ ?_ ?_ ?_ ?_ ?_);rfl;rfl;(exact F5.o.2.1);kernel_rfl;(simp[Value.oneCell']);intro w9 HS9)
  have Z:=Nx.fin (v:=.mk 69 [] n []) (sl:=.slice none 0 0) F5.o hb0 HS9.o (D8.nil _ _)
  refine bodyPost_ret (v:=.agg (G6 (.mk 69 [] n []) (.slice none 0 0)).toArray) (Ay results100 _ _ w.heap.size _ _ rfl Z.2.2 underlying42 rfl (by kernel_rfl)) rfl ⟨.mk 69 [] n [],_,t2,rfl,Z.1,?_,?_,El (by omega) (by decide),by omega,by simp[Az,Dx,E8];omega⟩
  ·rw[HQ2.o];simpa using Z.2.1
  rw[HQ2.o];simp
end
end Go.Proofs.YtkigmebejmmikaaGreatDoor
