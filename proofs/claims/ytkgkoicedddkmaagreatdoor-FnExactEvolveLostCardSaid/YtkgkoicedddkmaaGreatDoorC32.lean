/- Texts joined. Conditions: as each theorem names them. -/
import Derived.Test.YtkgkoicedddkmaaGreatDoorC03
import Derived.Test.YtkgkoicedddkmaaGreatDoorC21
import Derived.Test.YtkgkoicedddkmaaGreatDoorC22
import Derived.Test.YtkgkoicedddkmaaGreatDoorC26
import Derived.Test.YtkgkoicedddkmaaGreatDoorC30
import Derived.Test.YtkgkoicedddkmaaGreatDoorC31
set_option maxRecDepth 100000
set_option maxHeartbeats 32000000
set_option linter.unusedVariables false
set_option linter.unusedSimpArgs false
namespace Go.Proofs.YtkgkoicedddkmaaGreatDoor
open Go.RowKit Go.Proofs.Tryz
section
attribute [local go_sem] Qiz Qii Qib Qgw ByteArray.mk_append_mk
theorem Qfl(w0:World)(p1 p2:Value)(xs ys:List PT)(hx:Q9 w0 p1 xs)(hy:Q9 w0 p2 ys)(hS:Jc (Ae xs))(hT:Jc (Ae ys)):∀(n:Nat) (a b:Kd) (m:List Cv) (w:World),
  Cw a->Cw b->Bx (Ae xs) a->Bx (Ae ys) b->Jt (Ae xs) (Ae ys) m->64<n+m.length->Eg w0 p1 p2 w m ->
   Calls prog 49 #[.pointer (some ⟨w0.heap.size+1,0,none⟩),D2 a,D2 b] w (Sf w0 p1 p2 (evK (Ae xs) (Ae ys) n a b m) w):=by
 have h8:(Ae xs).length*(Ae ys).length<=64:=by
  have h1:=hS.1.2.1
  have h2:=hT.1.2.1
  exact Nat.le_trans (Nat.mul_le_mul h1 h2) (by decide)
 intro n
 induction n with
 |zero=>
  intro a b m w _ _ _ _ hm hn _
  have:=hm.len
  omega
 |succ n ih=>
  intro a b m w ha hb hra hrb hm hn hst
  have hml:m.length<=64:=Nat.le_trans hm.len h8
  exact Qc1 w0 p1 p2 xs ys hx hy n a b m w ha hb hra hrb hst (fun x y W hxm hym hW=>Qcq w0 p1 p2 xs ys hx hy hS hT n x y hxm hym ih m hm hn hml W hW)
theorem Qt.mono{lo lo':Nat}{w:World}{p:Value}{xs:List PT}(h:Qt lo w p xs)(hle:lo'<=lo):Qt lo' w p xs:=by
 obtain⟨b,A,c,mb,q0,q1,q2,q3,q4,q5,q6,q7,l1,l2,l3,l4⟩:=h
 exact⟨b,A,c,mb,q0,q1,q2,q3,q4,q5,q6,q7,by omega,by omega,fun g o h1 h2=>by have:=l3 g o h1 h2;omega,fun x hx=>⟨by have:=(l4 x hx).1;omega,fun k h1 h2=>by have:=(l4 x hx).2 k h1 h2;omega⟩⟩
theorem Nf.form{o:Option (List Ty × Kd)}{w w':World}{e:Ending}(h:Nf o w e w'):
  ∃(q:Option Addr) (a b c:ByteArray),e=.returned (.tuple #[.pointer q,.agg #[.string a,.string b,.string c],.bool o.isSome])/\Below w.heap.size w w' /\
   ∀S k,o=some (S,k)->∃xs,Ae xs=S/\a=⟨k.signs.toArray⟩/\b=⟨k.base.toArray⟩/\c=⟨k.name.toArray⟩/\Qt w.heap.size w' (.pointer q) xs:=by
 obtain⟨h1,hb⟩:=h
 cases o with
 |none=>
  obtain⟨p,a,b,c,e⟩:=h1
  exact⟨p,a,b,c,e,hb,fun S k h=>by cases h⟩
 |some x=>
  obtain⟨S,k⟩:=x
  obtain⟨p,xs,hx,e,hs⟩:=h1
  obtain⟨pb,_,_,_,rfl,_⟩:=hs.isc
  exact⟨_,_,_,_,e,hb,fun S' k' h=>by cases h;exact⟨xs,hx,rfl,rfl,rfl,hs⟩⟩
section
variable {P:Program}
theorem J1{fn:Func}{r p p2 q:Tmp}{ty:TypeId}(h:fn.results=#[.tmp r,.cell p ty,.cell p2 ty,.tmp q])(tmps:Array Value)(w:World)(b b2:Nat)(cs cs2:List Value)(d:TypeDesc)(y x:Value)
  (hr:tmps.getD r undef=y) (hp:tmps.getD p undef=.pointer (some ⟨b,0,none⟩)) (hp2:tmps.getD p2 undef=.pointer (some ⟨b2,0,none⟩)) (hq:tmps.getD q undef=x) (hc:w.rangeAt b 0 cs) (hc2:w.rangeAt b2 0 cs2) (hu:P.underlying ty=some d) (hd:d.isRow=true) (hi:(P.info? ty).map (·.size)=some cs.length) (hi2:(P.info? ty).map (·.size)=some cs2.length):
  (results fn tmps).run P w=.ok (.tuple #[y,.agg cs.toArray,.agg cs2.toArray,x]) w:=by
 have hp':tmps[p]?.getD undef=.pointer (some ⟨b,0,none⟩):=by simpa using hp
 have hp2':tmps[p2]?.getD undef=.pointer (some ⟨b2,0,none⟩):=by simpa using hp2
 have hq':tmps[q]?.getD undef=x:=by simpa using hq
 have hr':tmps[r]?.getD undef=y:=by simpa using hr
 simp[results,h,hp',hp2',hq',hr',asAddr,run_loadVar_mid w b 0 ty cs d hc hu hd hi,run_loadVar_mid w b2 0 ty cs2 d hc2 hu hd hi2]
end
theorem Qdl{B:Nat}{a b:World}(h:Below B a b)(p:Addr)(u:Value):Below B (a.setCell p u) (b.setCell p u):=
 ⟨h.os,h.tape,h.output,by simp[World.setCell];exact h.size,fun k hk=>by
  simp only[World.setCell,Array.getElem?_modify]
  rw[h.block k hk]⟩
theorem Vh{B:Nat}(k:Nat):∀(vs:List Value) (o:Nat) {a b:World},Below B a b->Below B (a.setCells k o vs) (b.setCells k o vs)
 |[],_,_,_,h=>h
 |v::r,o,a,b,h=>Vh k r (o+1) (Qdl h ⟨k,o,none⟩ v)
structure Pw(w:World)(p1 p2:Value)(xs ys:List PT)(N B13 B16:Nat)(ka kb:List Value)(w0 W:World)(mm:List Cv):Prop where
 sz:w0.heap.size=N
 i1:Qt (w.heap.size+2) w0 p1 xs
 i2:Qt (w.heap.size+2) w0 p2 ys
 be:Below w.heap.size w w0
 t9':w0.there w.heap.size 0 3
 t10':w0.there (w.heap.size+1) 0 3
 x13':w0.rangeAt B13 0 ka
 x16':w0.rangeAt B16 0 kb
 l13:B13<N
 l16:B16<N
 lw:w.heap.size+2<=N
 st:Eg w0 p1 p2 W mm
theorem Pw.x13{w:World}{p1 p2:Value}{xs ys:List PT}{N B13 B16:Nat}{ka kb:List Value}{w0 W:World}{mm:List Cv}(h:Pw w p1 p2 xs ys N B13 B16 ka kb w0 W mm):W.rangeAt B13 0 ka:=Aj h.x13' (by have:=h.l13;have:=h.sz;omega) h.st.1
theorem Pw.x16{w:World}{p1 p2:Value}{xs ys:List PT}{N B13 B16:Nat}{ka kb:List Value}{w0 W:World}{mm:List Cv}(h:Pw w p1 p2 xs ys N B13 B16 ka kb w0 W mm):W.rangeAt B16 0 kb:=Aj h.x16' (by have:=h.l16;have:=h.sz;omega) h.st.1
theorem Pw.t9{w:World}{p1 p2:Value}{xs ys:List PT}{N B13 B16:Nat}{ka kb:List Value}{w0 W:World}{mm:List Cv}(h:Pw w p1 p2 xs ys N B13 B16 ka kb w0 W mm):W.there w.heap.size 0 3:=Al h.t9' (by have:=h.lw;have:=h.sz;omega) h.st.1
theorem Pw.t10{w:World}{p1 p2:Value}{xs ys:List PT}{N B13 B16:Nat}{ka kb:List Value}{w0 W:World}{mm:List Cv}(h:Pw w p1 p2 xs ys N B13 B16 ka kb w0 W mm):W.there (w.heap.size+1) 0 3:=Al h.t10' (by have:=h.lw;have:=h.sz;omega) h.st.1
theorem Pw.drew{w:World}{p1 p2:Value}{xs ys:List PT}{N B13 B16:Nat}{ka kb:List Value}{w0 W:World}{mm:List Cv}(h:Pw w p1 p2 xs ys N B13 B16 ka kb w0 W mm):Pw w p1 p2 xs ys N B13 B16 ka kb w0 W.drew mm:=
 {h with st:=h.st.below (Aq _ _).drew}
theorem Pw.store{w:World}{p1 p2:Value}{xs ys:List PT}{N B13 B16:Nat}{ka kb:List Value}{w0 W:World}{mm:List Cv}(h:Pw w p1 p2 xs ys N B13 B16 ka kb w0 W mm){b:Nat}(cs:List Value)
  (h1:w.heap.size<=b) (h2:b<w.heap.size+2) (h3:B13≠b) (h4:B16≠b):Pw w p1 p2 xs ys N B13 B16 ka kb (w0.setCells b 0 cs) (W.setCells b 0 cs) mm:=by
 have hlw:=h.lw
 have hsz:=h.sz
 refine⟨by rw[B6];exact h.sz,h.i1.far (Es _ _ _ w0) h2,h.i2.far (Es _ _ _ w0) h2,Ag _ h1 _ _ _ h.be,World.there_setCells h.t9' _ _ _,World.there_setCells h.t10' _ _ _,
  World.rangeAt_setCells_apart h.x13' _ _ _ (.inl h3),World.rangeAt_setCells_apart h.x16' _ _ _ (.inl h4),h.l13,h.l16,h.lw,?_⟩
 obtain⟨s1,s2,s3,s4,s5,s6⟩:=h.st
 have hg:=Es b cs 0 W
 have hc:∀j,(W.setCells b 0 cs).cell? ⟨w0.heap.size+1,j,none⟩=W.cell? ⟨w0.heap.size+1,j,none⟩:=fun j=>hg.cell_far ⟨w0.heap.size+1,j,none⟩ (show w0.heap.size+1<_ by omega) (by simp;omega)
 unfold Eg
 rw[B6,B6]
 exact⟨Vh b cs 0 s1,s2,(hc 0).trans s3,(hc 1).trans s4,(hc 2).trans s5,s6.kept hg (by simp;omega)⟩
def Qct(o1 o2:Option (List Ty × Kd))(w:World)(e:Ending)(w':World):Prop:=
 ∃(q:Option Addr) (a1 b1 c1 a2 b2 c2:ByteArray),e=.returned (.tuple #[.pointer q,.agg #[.string a1,.string b1,.string c1],.agg #[.string a2,.string b2,.string c2],.bool (Eu o1 o2)])/\Below w.heap.size w w' /\
  (Eu o1 o2=true->∃(S T:List Ty) (a b:Kd) (xs ys:List PT) (eb:Nat) (p1 p2:Option Addr),o1=some (S,a)/\o2=some (T,b)/\Ae xs=S/\Ae ys=T/\q=some ⟨eb,0,none⟩/\a1=⟨a.signs.toArray⟩/\b1=⟨a.base.toArray⟩/\c1=⟨a.name.toArray⟩/\a2=⟨b.signs.toArray⟩/\b2=⟨b.base.toArray⟩/\c2=⟨b.name.toArray⟩ /\
   w.heap.size<=eb/\eb<w'.heap.size/\w'.cell? ⟨eb,0,none⟩=some (.pointer p1)/\w'.cell? ⟨eb,1,none⟩=some (.pointer p2)/\Qt w.heap.size w' (.pointer p1) xs/\Qt w.heap.size w' (.pointer p2) ys)
theorem Y6(s1 d1 s2 d2:List UInt8)(w:World)(h1:s1.length<=4000000)(h2:d1.length<=4000000)(h3:s2.length<=4000000)(h4:d2.length<=4000000):
  Calls prog 29 #[.string ⟨s1.toArray⟩,.string ⟨d1.toArray⟩,.string ⟨s2.toArray⟩,.string ⟨d2.toArray⟩] w (Qct (Bn s1 d1) (Bn s2 d2) w):=by
 have Hk1:=Aa (fun W=>Xt s1 d1 W h1 h2)
 have Hk2:=Aa (fun W=>Xt s2 d2 W h3 h4)
 have Hg1:=Aa (fun S k (h:Bn s1 d1=some (S,k))=>Du h)
 have Hg2:=Aa (fun S k (h:Bn s2 d2=some (S,k))=>Du h)
 generalize Bn s1 d1=o1 at *
 generalize Bn s2 d2=o2 at *
 have hmm:=@run_makeMap prog
 go_enter func29,ntmps29
 go_wp2_with fail
 refine(Hk1.o _).mono ?_
 rintro e w1 hp1
 obtain⟨q1,a1,b1,c1,rfl,hb1,hs1⟩:=hp1.form
 have HT9:=Aa (show w1.there w.heap.size 0 3 from Al (World.there_alloc (Cc w [.string ⟨#[]⟩,.string ⟨#[]⟩,.string ⟨#[]⟩] 62) _) (by simp;omega) hb1)
 have HT10:=Aa (show w1.there (w.heap.size+1) 0 3 from Al (by have:=Cc (w.alloc (.cells ([.string ⟨#[]⟩,.string ⟨#[]⟩,.string ⟨#[]⟩]:List Value).toArray 62)) [.string ⟨#[]⟩,.string ⟨#[]⟩,.string ⟨#[]⟩] 62;simpa using this) (by simp) hb1)
 have Hb1:=Aa (show Below w.heap.size w w1 from(((Aq _ _).alloc (Ap _) _).alloc (by simp) _).trans (hb1.mono (by simp;omega)))
 have hz1:w.heap.size+1<w1.heap.size:=by have:=hb1.size;simp at this;omega
 have Hs1:=Aa hs1
 clear hp1 hb1 hs1
 go_wp2_with fail
 refine(Hk2.o _).mono ?_
 rintro e w3 hp2
 obtain⟨q2,a2,b2,c2,rfl,hb3,hs2⟩:=hp2.form
 have HB3:=Aa (show Below w1.heap.size w1 w3 from((Aq _ _).alloc (Ap _) _).trans (hb3.mono (by simp)))
 have X13:=Aa (show w3.rangeAt w1.heap.size 0 [.string a1,.string b1,.string c1]from Aj (Bw w1 [.string a1,.string b1,.string c1] 62) (by simp) hb3)
 have hz3:w1.heap.size<w3.heap.size:=by have:=hb3.size;simp at this;omega
 have Hs2:=Aa hs2
 have Hb3:=Aa (Hb1.o.trans (HB3.o.mono (by omega)))
 have HT9':=Aa (Al HT9.o (show w.heap.size<w1.heap.size by omega) HB3.o)
 have HT10':=Aa (Al HT10.o hz1 HB3.o)
 clear hp2 hb3 hs2 HT9 HT10
 have HT9:=Aa (show (w3.alloc (.cells #[.string a2,.string b2,.string c2] 62)).there w.heap.size 0 3 from World.there_alloc HT9'.out _)
 have HT10:=Aa (show (w3.alloc (.cells #[.string a2,.string b2,.string c2] 62)).there (w.heap.size+1) 0 3 from World.there_alloc HT10'.out _)
 have Hb4:=Aa (show Below w.heap.size w (w3.alloc (.cells #[.string a2,.string b2,.string c2] 62))from Hb3.o.alloc (by omega) _)
 cases o1 with
 |none=>
  cases o2 with
  |none=>
   have Hev:Hid (Eu none none=false):=rfl
   dsimp only[Option.isSome]
   go_wp2_with (first|((with_reducible refine Ad (op:=⟨none,.store 62 _ _,_,_,_,none⟩) rfl 62 _ _ rfl w.heap.size 0 [.string ⟨#[]⟩,.string ⟨#[]⟩,.string ⟨#[]⟩] ?_ ?_ ?_ ?_ ?_ ?_);rfl;rfl;(exact HT9.o);kernel_rfl;(simp[Value.oneCell']);intro w9 HS9;have HT10b:=Aa (show w9.there (w.heap.size+1) 0 3 from by rw[HS9.o];exact World.there_setCells HT10.o _ _ _))|((with_reducible refine Ad (op:=⟨none,.store 62 _ _,_,_,_,none⟩) rfl 62 _ _ rfl (w.heap.size+1) 0 [.string ⟨#[]⟩,.string ⟨#[]⟩,.string ⟨#[]⟩] ?_ ?_ ?_ ?_ ?_ ?_);rfl;rfl;(exact HT10b.o);kernel_rfl;(simp[Value.oneCell']);intro w10 HS10))
   have HZ1:=Aa (show w10.rangeAt w.heap.size 0 [.string ⟨#[]⟩,.string ⟨#[]⟩,.string ⟨#[]⟩]from by rw[HS10.o];exact World.rangeAt_setCells_apart (show w9.rangeAt w.heap.size 0 [.string ⟨#[]⟩,.string ⟨#[]⟩,.string ⟨#[]⟩]from by rw[HS9.o];exact World.rangeAt_setCells_same _ _ _ _ HT9.o) _ _ _ (.inl (show w.heap.size≠w.heap.size+1 by omega)))
   have HZ2:=Aa (show w10.rangeAt (w.heap.size+1) 0 [.string ⟨#[]⟩,.string ⟨#[]⟩,.string ⟨#[]⟩]from by rw[HS10.o];exact World.rangeAt_setCells_same _ _ _ _ HT10b.o)
   have Hb9:=Aa (show Below w.heap.size w w10 from by rw[HS10.o];refine Ag _ (by omega) _ _ _ ?_;rw[HS9.o];exact Ag _ (Ap _) _ _ _ Hb4.o)
   refine bodyPost_ret (v:=.tuple #[.pointer none,.agg ([.string ⟨#[]⟩,.string ⟨#[]⟩,.string ⟨#[]⟩]:List Value).toArray,.agg ([.string ⟨#[]⟩,.string ⟨#[]⟩,.string ⟨#[]⟩]:List Value).toArray,.bool false]) ?_ rfl ?_
   ·exact J1 results29 _ _ w.heap.size (w.heap.size+1) [.string ⟨#[]⟩,.string ⟨#[]⟩,.string ⟨#[]⟩] [.string ⟨#[]⟩,.string ⟨#[]⟩,.string ⟨#[]⟩] _ _ _ rfl rfl rfl rfl HZ1.o HZ2.o underlying62 rfl (by kernel_rfl) (by kernel_rfl)
   exact⟨none,_,_,_,_,_,_,by rw[Hev.o],Hb9.o,fun h=>by rw[Hev.o]at h;cases h⟩
  |some y=>
   have Hev:Hid (Eu none (some y)=false):=rfl
   dsimp only[Option.isSome]
   go_wp2_with (first|((with_reducible refine Ad (op:=⟨none,.store 62 _ _,_,_,_,none⟩) rfl 62 _ _ rfl w.heap.size 0 [.string ⟨#[]⟩,.string ⟨#[]⟩,.string ⟨#[]⟩] ?_ ?_ ?_ ?_ ?_ ?_);rfl;rfl;(exact HT9.o);kernel_rfl;(simp[Value.oneCell']);intro w9 HS9;have HT10b:=Aa (show w9.there (w.heap.size+1) 0 3 from by rw[HS9.o];exact World.there_setCells HT10.o _ _ _))|((with_reducible refine Ad (op:=⟨none,.store 62 _ _,_,_,_,none⟩) rfl 62 _ _ rfl (w.heap.size+1) 0 [.string ⟨#[]⟩,.string ⟨#[]⟩,.string ⟨#[]⟩] ?_ ?_ ?_ ?_ ?_ ?_);rfl;rfl;(exact HT10b.o);kernel_rfl;(simp[Value.oneCell']);intro w10 HS10))
   have HZ1:=Aa (show w10.rangeAt w.heap.size 0 [.string ⟨#[]⟩,.string ⟨#[]⟩,.string ⟨#[]⟩]from by rw[HS10.o];exact World.rangeAt_setCells_apart (show w9.rangeAt w.heap.size 0 [.string ⟨#[]⟩,.string ⟨#[]⟩,.string ⟨#[]⟩]from by rw[HS9.o];exact World.rangeAt_setCells_same _ _ _ _ HT9.o) _ _ _ (.inl (show w.heap.size≠w.heap.size+1 by omega)))
   have HZ2:=Aa (show w10.rangeAt (w.heap.size+1) 0 [.string ⟨#[]⟩,.string ⟨#[]⟩,.string ⟨#[]⟩]from by rw[HS10.o];exact World.rangeAt_setCells_same _ _ _ _ HT10b.o)
   have Hb9:=Aa (show Below w.heap.size w w10 from by rw[HS10.o];refine Ag _ (by omega) _ _ _ ?_;rw[HS9.o];exact Ag _ (Ap _) _ _ _ Hb4.o)
   refine bodyPost_ret (v:=.tuple #[.pointer none,.agg ([.string ⟨#[]⟩,.string ⟨#[]⟩,.string ⟨#[]⟩]:List Value).toArray,.agg ([.string ⟨#[]⟩,.string ⟨#[]⟩,.string ⟨#[]⟩]:List Value).toArray,.bool false]) ?_ rfl ?_
   ·exact J1 results29 _ _ w.heap.size (w.heap.size+1) [.string ⟨#[]⟩,.string ⟨#[]⟩,.string ⟨#[]⟩] [.string ⟨#[]⟩,.string ⟨#[]⟩,.string ⟨#[]⟩] _ _ _ rfl rfl rfl rfl HZ1.o HZ2.o underlying62 rfl (by kernel_rfl) (by kernel_rfl)
   exact⟨none,_,_,_,_,_,_,by rw[Hev.o],Hb9.o,fun h=>by rw[Hev.o]at h;cases h⟩
 |some x=>
  obtain⟨S,k⟩:=x
  cases o2 with
  |none=>
   have Hev:Hid (Eu (some (S,k)) none=false):=rfl
   dsimp only[Option.isSome]
   go_wp2_with (first|((with_reducible refine Ad (op:=⟨none,.store 62 _ _,_,_,_,none⟩) rfl 62 _ _ rfl w.heap.size 0 [.string ⟨#[]⟩,.string ⟨#[]⟩,.string ⟨#[]⟩] ?_ ?_ ?_ ?_ ?_ ?_);rfl;rfl;(exact HT9.o);kernel_rfl;(simp[Value.oneCell']);intro w9 HS9;have HT10b:=Aa (show w9.there (w.heap.size+1) 0 3 from by rw[HS9.o];exact World.there_setCells HT10.o _ _ _))|((with_reducible refine Ad (op:=⟨none,.store 62 _ _,_,_,_,none⟩) rfl 62 _ _ rfl (w.heap.size+1) 0 [.string ⟨#[]⟩,.string ⟨#[]⟩,.string ⟨#[]⟩] ?_ ?_ ?_ ?_ ?_ ?_);rfl;rfl;(exact HT10b.o);kernel_rfl;(simp[Value.oneCell']);intro w10 HS10))
   have HZ1:=Aa (show w10.rangeAt w.heap.size 0 [.string ⟨#[]⟩,.string ⟨#[]⟩,.string ⟨#[]⟩]from by rw[HS10.o];exact World.rangeAt_setCells_apart (show w9.rangeAt w.heap.size 0 [.string ⟨#[]⟩,.string ⟨#[]⟩,.string ⟨#[]⟩]from by rw[HS9.o];exact World.rangeAt_setCells_same _ _ _ _ HT9.o) _ _ _ (.inl (show w.heap.size≠w.heap.size+1 by omega)))
   have HZ2:=Aa (show w10.rangeAt (w.heap.size+1) 0 [.string ⟨#[]⟩,.string ⟨#[]⟩,.string ⟨#[]⟩]from by rw[HS10.o];exact World.rangeAt_setCells_same _ _ _ _ HT10b.o)
   have Hb9:=Aa (show Below w.heap.size w w10 from by rw[HS10.o];refine Ag _ (by omega) _ _ _ ?_;rw[HS9.o];exact Ag _ (Ap _) _ _ _ Hb4.o)
   refine bodyPost_ret (v:=.tuple #[.pointer none,.agg ([.string ⟨#[]⟩,.string ⟨#[]⟩,.string ⟨#[]⟩]:List Value).toArray,.agg ([.string ⟨#[]⟩,.string ⟨#[]⟩,.string ⟨#[]⟩]:List Value).toArray,.bool false]) ?_ rfl ?_
   ·exact J1 results29 _ _ w.heap.size (w.heap.size+1) [.string ⟨#[]⟩,.string ⟨#[]⟩,.string ⟨#[]⟩] [.string ⟨#[]⟩,.string ⟨#[]⟩,.string ⟨#[]⟩] _ _ _ rfl rfl rfl rfl HZ1.o HZ2.o underlying62 rfl (by kernel_rfl) (by kernel_rfl)
   exact⟨none,_,_,_,_,_,_,by rw[Hev.o],Hb9.o,fun h=>by rw[Hev.o]at h;cases h⟩
  |some y=>
   obtain⟨T,l⟩:=y
   dsimp only[Option.isSome]
   obtain⟨xs,hxs,e1,e2,e3,hi1⟩:=Hs1.o _ _ rfl
   obtain⟨ys,hys,e4,e5,e6,hi2⟩:=Hs2.o _ _ rfl
   have hl1:Qt (w.heap.size+2) w1 (.pointer q1) xs:=hi1.mono (by simp)
   have hl3:Qt (w.heap.size+2) w3 (.pointer q1) xs:=hl1.below HB3.o
   have hl3':Qt (w.heap.size+2) w3 (.pointer q2) ys:=hi2.mono (by simp;omega)
   have Hi1':=Aa hl3
   have Hi2':=Aa hl3'
   have E1:=Aa e1
   have E2:=Aa e2
   have E3:=Aa e3
   have E4:=Aa e4
   have E5:=Aa e5
   have E6:=Aa e6
   obtain⟨hS,_,_,hk1,_,hr1⟩:=Hg1.o _ _ rfl
   obtain⟨hT,_,_,hk2,_,hr2⟩:=Hg2.o _ _ rfl
   subst hxs hys
   clear e1 e2 e3 e4 e5 e6
   go_wp2_with fail
   obtain⟨w4,hw4⟩:∃w4,w4=w3.alloc (.cells #[.string a2,.string b2,.string c2] 62):=⟨_,rfl⟩
   rw[<-hw4]at HT9 HT10 Hb4 ⊢
   have hz4:w4.heap.size=w3.heap.size+1:=by rw[hw4];simp
   have hb34:Below w3.heap.size w3 w4:=by rw[hw4];exact(Aq _ _).alloc (Ap _) _
   have Hi1:=Aa (Hi1'.out.below hb34)
   have Hi2:=Aa (Hi2'.out.below hb34)
   have X13':=Aa (Aj X13.o hz3 hb34)
   have X16:=Aa (show w4.rangeAt w3.heap.size 0 [.string a2,.string b2,.string c2]from by rw[hw4];exact Bw w3 [.string a2,.string b2,.string c2] 62)
   have Hcall:=Aa (fun(w0' W:World) (hN:w0'.heap.size=w4.heap.size) (h1:Qt (w.heap.size+2) w0' (.pointer q1) xs) (h2:Qt (w.heap.size+2) w0' (.pointer q2) ys) (h:Eg w0' (.pointer q1) (.pointer q2) W [])=>show Calls prog 49 #[.pointer (some ⟨w4.heap.size+1,0,none⟩),D2 k,D2 l] W (Sf w0' (.pointer q1) (.pointer q2) (evK (Ae xs) (Ae ys) 65 k l []) W)from hN ▸ Qfl w0' _ _ xs ys h1.isc h2.isc hS hT 65 k l [] W hk1 hk2 hr1 hr2 (Jt.nil _ _) (by simp) h)
   unfold D2 at Hcall
   rw[<-E1.o,<-E2.o,<-E3.o,<-E4.o,<-E5.o,<-E6.o]at Hcall
   have Hev:Hid (Eu (some (Ae xs,k)) (some (Ae ys,l))=(evK (Ae xs) (Ae ys) 65 k l []).1):=rfl
   generalize evK (Ae xs) (Ae ys) 65 k l []=r at *
   obtain⟨r1,r2⟩:=r
   clear hw4 hb34 hi1 hi2 hl1 hl3 hl3' hS hT hk1 hk2 hr1 hr2
   have hmb:(w4.alloc (.map #[] 0)).heap.size=w4.heap.size+1:=by simp
   obtain⟨w6,hw6⟩:∃w6,w6=(w4.alloc (.map #[] 0)).alloc (.cells #[.pointer q1,.pointer q2,.map (some (w3.heap.size+1))] 69):=⟨_,rfl⟩
   rw[<-hw6]
   have hz6:w6.heap.size=w4.heap.size+2:=by rw[hw6];simp
   have hb46:Below w4.heap.size w4 w6:=by rw[hw6];exact((Aq _ _).alloc (Ap _) _).alloc (by simp) _
   have Hst6:=Aa (show Eg w4 (.pointer q1) (.pointer q2) w6 []from by
    refine⟨hb46,by omega,by rw[hw6,<-hmb];simp,by rw[hw6,<-hmb];simp,by rw[hw6,<-hmb];simp;omega,?_⟩
    rw[hw6]
    exact((Dd.made w4 prog 176 (.bool false)).alloc _).of_eq (fun l hl=>by simp[Nv]))
   have HE:=Aa (show Pw w (.pointer q1) (.pointer q2) xs ys w4.heap.size w1.heap.size w3.heap.size [.string a1,.string b1,.string c1] [.string a2,.string b2,.string c2] w4 w6 []from⟨rfl,Hi1.o,Hi2.o,Hb4.o,HT9.o,HT10.o,X13'.out,X16.o,by omega,by omega,by omega,Hst6.o⟩)
   have g13:w.heap.size+2<=w1.heap.size:=by omega
   have g16:w.heap.size+2<=w3.heap.size:=by omega
   have hz43:w3.heap.size+1+1=w4.heap.size+1:=by omega
   rw[hz43]
   generalize w1.heap.size=B13 at *
   generalize w3.heap.size=B16 at *
   clear hw6 hb46 hmb
   refine Ge [46,47,48,49,50,51,52,8,999,998,11]
    (fun i v W=>match i with|0=>v=.pointer (some ⟨w4.heap.size+1,0,none⟩)|1=>v=.agg ([.string a1,.string b1,.string c1]:List Value).toArray|2=>v=.agg ([.string a2,.string b2,.string c2]:List Value).toArray|3=>v=.pointer (some ⟨w4.heap.size+1,0,none⟩)|4=>v=.agg ([.string a1,.string b1,.string c1]:List Value).toArray|5=>v=.agg ([.string a2,.string b2,.string c2]:List Value).toArray|6=>v=.bool r1|7=>v=.pointer (some ⟨w4.heap.size+1,0,none⟩)|10=>v=.bool r1|_=>True)
    (fun L U W=>∃w0' mm,Pw w (.pointer q1) (.pointer q2) xs ys w4.heap.size B13 B16 [.string a1,.string b1,.string c1] [.string a2,.string b2,.string c2] w0' W mm/\(L 6=false->mm=[])/\(L 8=true->w0'.rangeAt w.heap.size 0 [.string a1,.string b1,.string c1])/\(L 9=true->w0'.rangeAt (w.heap.size+1) 0 [.string a2,.string b2,.string c2])) (⟨w4,[],HE.o.drew,fun _=>rfl,fun h=>Bool.noConfusion h,fun h=>Bool.noConfusion h⟩) ?_ ?_
   ·repeat (first|exact Ah.nil|(refine Ah.cons ?_ ?_;rotate_left))
    all_goals
     rintro L U W hL hpre HR Hdep K hK
     obtain⟨w0',mm,hE,hm0,R8,R9⟩:=HR.o
     have x13:=hE.x13
     have x16:=hE.x16
     have a0:W.cell? ⟨B13,0,none⟩=some (.string a1):=by simpa using Ab x13 0 rfl
     have a1':W.cell? ⟨B13,1,none⟩=some (.string b1):=by simpa using Ab x13 1 rfl
     have a2':W.cell? ⟨B13,2,none⟩=some (.string c1):=by simpa using Ab x13 2 rfl
     have b0:W.cell? ⟨B16,0,none⟩=some (.string a2):=by simpa using Ab x16 0 rfl
     have b1':W.cell? ⟨B16,1,none⟩=some (.string b2):=by simpa using Ab x16 1 rfl
     have b2':W.cell? ⟨B16,2,none⟩=some (.string c2):=by simpa using Ab x16 2 rfl
     clear x13 x16
     first|(simp[Region.binds]at hpre;done)|simp[Region.binds]at hpre|clear hpre
    iterate 6
     ·go_simp
      exact kE hK HR.o
    ·obtain rfl:=hm0 hL
     go_simp
     refine(Hcall.o w0' W hE.sz hE.i1 hE.i2 hE.st).mono ?_
     rintro e w5 ⟨rfl,ha5,hk5⟩
     exact hK _ _ _ rfl Ac ⟨w0',_,{hE with st:=ha5},fun h=>by simp at h,R8,R9⟩ (by simp[Act.put,hpre])
    ·go_simp
     exact kE hK HR.o
    ·rw[if_pos (by rfl)]
     refine wp_store_mid 62 _ _ rfl w.heap.size 0 ([.string a1,.string b1,.string c1]:List Value).toArray rfl (by first|exact hpre.1.2|exact hpre.2.1.2|exact hpre.2|exact hpre.1) hE.t9 (by kernel_rfl) (by simp[Value.oneCell']) ?_
     exact hK undef _ _ Ac Ac ⟨_,mm,hE.store (b:=w.heap.size) [.string a1,.string b1,.string c1] (by omega) (by omega) (by omega) (by omega),hm0,fun _=>World.rangeAt_setCells_same _ _ _ _ hE.t9',fun h=>World.rangeAt_setCells_apart (R9 h) _ _ _ (.inl (show w.heap.size+1≠w.heap.size by omega))⟩ rfl
    ·rw[if_pos (by rfl)]
     refine wp_store_mid 62 _ _ rfl (w.heap.size+1) 0 ([.string a2,.string b2,.string c2]:List Value).toArray rfl (by first|exact hpre.1.2|exact hpre.2.1.2|exact hpre.2|exact hpre.1) hE.t10 (by kernel_rfl) (by simp[Value.oneCell']) ?_
     exact hK undef _ _ Ac Ac ⟨_,mm,hE.store (b:=(w.heap.size+1)) [.string a2,.string b2,.string c2] (by omega) (by omega) (by omega) (by omega),hm0,fun h=>World.rangeAt_setCells_apart (R8 h) _ _ _ (.inl (show w.heap.size≠w.heap.size+1 by omega)),fun _=>World.rangeAt_setCells_same _ _ _ _ hE.t10'⟩ rfl
    ·go_simp
     exact kE hK HR.o
   rintro L U W hL hφ hR
   have e7:U 7=.pointer (some ⟨w4.heap.size+1,0,none⟩):=hφ 7 (by decide)
   have e10:U 10=.bool r1:=hφ 10 (by decide)
   simp only[e7,e10]
   clear hφ
   obtain⟨w0',mm,hE,_,h8,h9⟩:=hR
   have Z1:=Aa (Aj (h8 (hL 8 (by decide))) (show w.heap.size<w0'.heap.size by have:=hE.sz;have:=hE.lw;omega) hE.st.1)
   have Z2:=Aa (Aj (h9 (hL 9 (by decide))) (show w.heap.size+1<w0'.heap.size by have:=hE.sz;have:=hE.lw;omega) hE.st.1)
   have HEv:=Aa hE
   clear hL hE h8 h9
   go_wp2_with fail
   refine bodyPost_ret (v:=.tuple #[.pointer (some ⟨w4.heap.size+1,0,none⟩),.agg ([.string a1,.string b1,.string c1]:List Value).toArray,.agg ([.string a2,.string b2,.string c2]:List Value).toArray,.bool r1]) ?_ rfl ?_
   ·exact J1 results29 _ _ w.heap.size (w.heap.size+1) [.string a1,.string b1,.string c1] [.string a2,.string b2,.string c2] _ _ _ rfl rfl rfl rfl Z1.o Z2.o underlying62 rfl (by kernel_rfl) (by kernel_rfl)
   have hE:=HEv.o
   have hs:=hE.sz
   obtain⟨s1,s2,s3,s4,s5,s6⟩:=hE.st
   rw[hs]at s2 s3 s4
   exact⟨_,_,_,_,_,_,_,by rw[Hev.o],hE.be.trans (s1.mono hE.be.size),fun _=>⟨_,_,k,l,xs,ys,w4.heap.size+1,q1,q2,rfl,rfl,rfl,rfl,rfl,E1.o,E2.o,E3.o,E4.o,E5.o,E6.o,by have:=hE.lw;omega,by omega,s3,s4,(hE.i1.below s1).mono (by omega),(hE.i2.below s1).mono (by omega)⟩⟩
theorem Qct.kinds{o1 o2:Option (List Ty × Kd)}{w w':World}{e:Ending}(h:Qct o1 o2 w e w'):∃(q:Option Addr) (a1 b1 c1 a2 b2 c2:ByteArray),e=.returned (.tuple #[.pointer q,.agg #[.string a1,.string b1,.string c1],.agg #[.string a2,.string b2,.string c2],.bool (Eu o1 o2)])/\Below w.heap.size w w':=by
 obtain⟨q,a1,b1,c1,a2,b2,c2,h1,h2,_⟩:=h
 exact⟨q,a1,b1,c1,a2,b2,c2,h1,h2⟩
theorem Qjt(s1 d1 s2 d2:List UInt8)(w:World)(h1:s1.length<=4000000)(h2:d1.length<=4000000)(h3:s2.length<=4000000)(h4:d2.length<=4000000):
  Calls prog 60 #[.string ⟨s1.toArray⟩,.string ⟨d1.toArray⟩,.string ⟨s2.toArray⟩,.string ⟨d2.toArray⟩] w fun e w'=>e=.returned (.bool (Eu (Bn s1 d1) (Bn s2 d2)))/\Below w.heap.size w w':=by
 have Hr:=Aa (fun W=>Y6 s1 d1 s2 d2 W h1 h2 h3 h4)
 generalize Bn s1 d1=o1 at *
 generalize Bn s2 d2=o2 at *
 go_enter func60,ntmps60
 go_wp2_with fail
 refine(Hr.o _).mono ?_
 rintro e w1 hp
 obtain⟨q,a1,b1,c1,a2,b2,c2,rfl,hb1⟩:=hp.kinds
 have Hb1:=Aa hb1
 clear hb1 hp
 go_wp2_with fail
 go_ret
 exact⟨rfl,(Hb1.o.alloc Hb1.o.size _).alloc (by simp;have:=Hb1.o.size;omega) _⟩
end
def Kl(r:Vl × Bool)(w:World)(e:Ending)(w':World):Prop:=∃sl,e=.returned (.tuple #[D9 r.1 sl,.bool r.2])/\Dx (fun c=>w.heap.size<=c) w' sl r.1.kids/\Below w.heap.size w w'
def Yt(r:Vl × Bool)(lost:Bool)(B11:Nat)(w:World)(e:Ending)(w':World):Prop:=∃sl,e=.returned (D9 r.1 sl)/\Dx (fun c=>w.heap.size<=c) w' sl r.1.kids/\w.grownBy w' (some B11)/\w'.cell? ⟨B11,0,none⟩=some (.bool (lost || r.2))/\w'.frozen? ⟨B11,0,none⟩=false
theorem H6{w w1 w2:World}{row:Option Nat}(h:w.grownBy w1 row)(k:w1.grownBy w2 row):w.grownBy w2 row:=
 ⟨k.os.trans h.os,k.tape.trans h.tape,k.output.trans h.output,Nat.le_trans h.size k.size,fun b hb hne=>(k.block b (Nat.lt_of_lt_of_le hb h.size) hne).trans (h.block b hb hne)⟩
theorem Se{w w':World}{b o:Nat}{vs:List Value}(h:w.grownBy w' (some o))(hb:w.heap.size<=b)(off:Nat):w.grownBy (w'.setCells b off vs) (some o):=by
 have hg:=Bk b vs off w'
 exact⟨hg.os.trans h.os,hg.tape.trans h.tape,hg.output.trans h.output,Nat.le_trans h.size hg.size,fun k hk hne=>(hg.block k (Nat.lt_of_lt_of_le hk h.size) (by intro e;injection e with e;omega)).trans (h.block k hk hne)⟩
theorem Qcu(w:World)(eb B4 B11:Nat)(hl4:B4<w.heap.size)(hl11:B11<w.heap.size)(c4:w.cell? ⟨B4,0,none⟩=some (.pointer (some ⟨eb,0,none⟩)))(lost:Bool)(c11:w.cell? ⟨B11,0,none⟩=some (.bool lost))(f11:w.frozen? ⟨B11,0,none⟩=false)(a b:Kd)(x:Vl)(A:Option Addr)(n c:Nat)(r:Vl × Bool)
  (HL:∀W,Below w.heap.size w W->Calls prog 31 #[.pointer (some ⟨eb,0,none⟩),D2 a,D2 b,D9 x (.slice A n c)] W (Kl r W)):
  Calls prog 52 #[D2 a,D2 b,D9 x (.slice A n c),.pointer (some ⟨B4,0,none⟩),.pointer (some ⟨B11,0,none⟩)] w (Yt r lost B11 w):=by
 obtain⟨W4,hW4⟩:∃W4,W4=(((w.alloc (.cells #[.string ⟨a.signs.toArray⟩,.string ⟨a.base.toArray⟩,.string ⟨a.name.toArray⟩] 62)).alloc (.cells #[.string ⟨b.signs.toArray⟩,.string ⟨b.base.toArray⟩,.string ⟨b.name.toArray⟩] 62)).alloc (.cells #[.int .u8 (x.what.toNat:Int),.string ⟨x.text.toArray⟩,.int .i64 (x.tag:Int),.slice A n c] 40)).alloc (.cells #[.int .u8 0,.string ⟨#[]⟩,.int .i64 0,.slice none 0 0] 40):=⟨_,rfl⟩
 have hb4:Below w.heap.size w W4:=by rw[hW4];exact((((Aq _ _).alloc (Ap _) _).alloc (by simp) _).alloc (by simp;omega) _).alloc (by simp;omega) _
 have HL4:=Aa (HL W4 hb4)
 have hz4:W4.heap.size=w.heap.size+4:=by rw[hW4];simp
 have T8:=Aa (show W4.there (w.heap.size+3) 0 4 from by
  have h:=Cc (((w.alloc (.cells #[.string ⟨a.signs.toArray⟩,.string ⟨a.base.toArray⟩,.string ⟨a.name.toArray⟩] 62)).alloc (.cells #[.string ⟨b.signs.toArray⟩,.string ⟨b.base.toArray⟩,.string ⟨b.name.toArray⟩] 62)).alloc (.cells #[.int .u8 (x.what.toNat:Int),.string ⟨x.text.toArray⟩,.int .i64 (x.tag:Int),.slice A n c] 40)) [.int .u8 0,.string ⟨#[]⟩,.int .i64 0,.slice none 0 0] 40
  rw[show ((((w.alloc (.cells #[.string ⟨a.signs.toArray⟩,.string ⟨a.base.toArray⟩,.string ⟨a.name.toArray⟩] 62)).alloc (.cells #[.string ⟨b.signs.toArray⟩,.string ⟨b.base.toArray⟩,.string ⟨b.name.toArray⟩] 62)).alloc (.cells #[.int .u8 (x.what.toNat:Int),.string ⟨x.text.toArray⟩,.int .i64 (x.tag:Int),.slice A n c] 40))).heap.size=w.heap.size+3 from by simp]at h
  rw[hW4]
  exact h)
 have Hb4:=Aa hb4
 have C4:=Aa ((hb4.cell (p:=⟨B4,0,none⟩) hl4).trans c4)
 have C11:=Aa ((hb4.cell (p:=⟨B11,0,none⟩) hl11).trans c11)
 have F11:=Aa ((hb4.frozen (p:=⟨B11,0,none⟩) hl11).trans f11)
 have c4':=C4.o
 rw[hW4]at c4'
 unfold D2 D9 at HL4 ⊢
 clear HL hb4 c4 c11 f11
 go_enter func52,ntmps52
 go_wp2_with fail
 rw[<-hW4]
 clear hW4 c4'
 refine HL4.o.mono ?_
 rintro e w5 ⟨sl,rfl,hs5,hb5⟩
 obtain⟨A5,c5,rfl⟩:=hs5.form
 have Hs5:=Aa hs5
 have Hb5:=Aa (Hb4.o.trans (hb5.mono Hb4.o.size))
 have T85:=Aa (Al T8.o (by omega) hb5)
 have c115:w5.cell? ⟨B11,0,none⟩=some (.bool lost):=(hb5.cell (p:=⟨B11,0,none⟩) (show B11<W4.heap.size by omega)).trans C11.o
 have f115:w5.frozen? ⟨B11,0,none⟩=false:=(hb5.frozen (p:=⟨B11,0,none⟩) (show B11<W4.heap.size by omega)).trans F11.o
 have hz5:w.heap.size+4<=w5.heap.size:=by have:=hb5.size;omega
 have hn1:¬(B11=w5.heap.size):=by omega
 have hn2:B11<w5.heap.size:=by omega
 have hn3:¬(w5.heap.size=B11):=by omega
 unfold D9
 have Hr:=Aa (show r.1=.mk r.1.what r.1.text r.1.tag r.1.kids from by cases r.1;rfl)
 clear hb5 hs5
 cases lost with
 |true=>
  have T86:=Aa (show ((w5.setCell ⟨B11,0,none⟩ (.bool true)).alloc (.cells #[.int .u8 (r.1.what.toNat:Int),.string ⟨r.1.text.toArray⟩,.int .i64 (r.1.tag:Int),.slice A5 r.1.kids.length c5] 40)).there (w.heap.size+3) 0 4 from World.there_alloc (World.there_setCells T85.o B11 0 [.bool true]) _)
  go_wp2_with ((with_reducible refine Ad (op:=⟨none,.store 40 _ _,_,_,_,none⟩) rfl 40 _ _ rfl (w.heap.size+3) 0 [.int .u8 (r.1.what.toNat:Int),.string ⟨r.1.text.toArray⟩,.int .i64 (r.1.tag:Int),.slice A5 r.1.kids.length c5] ?_ ?_ ?_ ?_ ?_ ?_);(first|rfl|(simp;done));rfl;(exact T86.o);kernel_rfl;(simp[Value.oneCell']);intro w9 HS9)
  refine bodyPost_ret (v:=.agg ([.int .u8 (r.1.what.toNat:Int),.string ⟨r.1.text.toArray⟩,.int .i64 (r.1.tag:Int),.slice A5 r.1.kids.length c5]:List Value).toArray) ?_ rfl ?_
  ·exact Az results52 _ _ (w.heap.size+3) _ _ rfl (by rw[HS9.o];exact World.rangeAt_setCells_same _ _ _ _ T86.o) underlying40 rfl (by kernel_rfl)
  have hg5:w.grownBy w5 (some B11):=B0 Hb5.o _
  have hg6:=H6 hg5 (At w5 B11 0 (.bool true))
  have hal:=(Aq (w5.setCell ⟨B11,0,none⟩ (.bool true)).heap.size (w5.setCell ⟨B11,0,none⟩ (.bool true))).alloc (Ap _) (.cells #[.int .u8 (r.1.what.toNat:Int),.string ⟨r.1.text.toArray⟩,.int .i64 (r.1.tag:Int),.slice A5 r.1.kids.length c5] 40)
  have hg7:=H6 hg6 (B0 hal (some B11))
  have hg9:w.grownBy w9 (some B11):=by rw[HS9.o];exact Se hg7 (by omega) 0
  refine⟨.slice A5 r.1.kids.length c5,rfl,?_,hg9,?_,?_⟩
  ·have h1:Dx (fun c=>w.heap.size+4<=c) w5 (.slice A5 r.1.kids.length c5) r.1.kids:=Hs5.o.mono fun c hc _=>by omega
   have h2:=(h1.grown (At w5 B11 0 (.bool true)) (fun c hc e=>by injection e with e;omega)).after hal
   have h3:=h2.grown (Bk (w.heap.size+3) [.int .u8 (r.1.what.toNat:Int),.string ⟨r.1.text.toArray⟩,.int .i64 (r.1.tag:Int),.slice A5 r.1.kids.length c5] 0 _) (fun c hc e=>by injection e with e;omega)
   rw[HS9.o]
   exact h3.mono fun c hc _=>by omega
  ·rw[HS9.o,(Bk (w.heap.size+3) [.int .u8 (r.1.what.toNat:Int),.string ⟨r.1.text.toArray⟩,.int .i64 (r.1.tag:Int),.slice A5 r.1.kids.length c5] 0 _).cell_far ⟨B11,0,none⟩ (by simp;omega) (by simp;omega)]
   simp[go_sem,c115,f115,hn1,hn2]
  rw[HS9.o,(Bk (w.heap.size+3) [.int .u8 (r.1.what.toNat:Int),.string ⟨r.1.text.toArray⟩,.int .i64 (r.1.tag:Int),.slice A5 r.1.kids.length c5] 0 _).frozen_far ⟨B11,0,none⟩ (by simp;omega) (by simp;omega)]
  simp[go_sem,f115,hn1,hn2]
 |false=>
  have T86:=Aa (show ((w5.setCell ⟨B11,0,none⟩ (.bool r.2)).alloc (.cells #[.int .u8 (r.1.what.toNat:Int),.string ⟨r.1.text.toArray⟩,.int .i64 (r.1.tag:Int),.slice A5 r.1.kids.length c5] 40)).there (w.heap.size+3) 0 4 from World.there_alloc (World.there_setCells T85.o B11 0 [.bool r.2]) _)
  go_wp2_with ((with_reducible refine Ad (op:=⟨none,.store 40 _ _,_,_,_,none⟩) rfl 40 _ _ rfl (w.heap.size+3) 0 [.int .u8 (r.1.what.toNat:Int),.string ⟨r.1.text.toArray⟩,.int .i64 (r.1.tag:Int),.slice A5 r.1.kids.length c5] ?_ ?_ ?_ ?_ ?_ ?_);(first|rfl|(simp;done));rfl;(exact T86.o);kernel_rfl;(simp[Value.oneCell']);intro w9 HS9)
  refine bodyPost_ret (v:=.agg ([.int .u8 (r.1.what.toNat:Int),.string ⟨r.1.text.toArray⟩,.int .i64 (r.1.tag:Int),.slice A5 r.1.kids.length c5]:List Value).toArray) ?_ rfl ?_
  ·exact Az results52 _ _ (w.heap.size+3) _ _ rfl (by rw[HS9.o];exact World.rangeAt_setCells_same _ _ _ _ T86.o) underlying40 rfl (by kernel_rfl)
  have hg5:w.grownBy w5 (some B11):=B0 Hb5.o _
  have hg6:=H6 hg5 (At w5 B11 0 (.bool r.2))
  have hal:=(Aq (w5.setCell ⟨B11,0,none⟩ (.bool r.2)).heap.size (w5.setCell ⟨B11,0,none⟩ (.bool r.2))).alloc (Ap _) (.cells #[.int .u8 (r.1.what.toNat:Int),.string ⟨r.1.text.toArray⟩,.int .i64 (r.1.tag:Int),.slice A5 r.1.kids.length c5] 40)
  have hg7:=H6 hg6 (B0 hal (some B11))
  have hg9:w.grownBy w9 (some B11):=by rw[HS9.o];exact Se hg7 (by omega) 0
  refine⟨.slice A5 r.1.kids.length c5,rfl,?_,hg9,?_,?_⟩
  ·have h1:Dx (fun c=>w.heap.size+4<=c) w5 (.slice A5 r.1.kids.length c5) r.1.kids:=Hs5.o.mono fun c hc _=>by omega
   have h2:=(h1.grown (At w5 B11 0 (.bool r.2)) (fun c hc e=>by injection e with e;omega)).after hal
   have h3:=h2.grown (Bk (w.heap.size+3) [.int .u8 (r.1.what.toNat:Int),.string ⟨r.1.text.toArray⟩,.int .i64 (r.1.tag:Int),.slice A5 r.1.kids.length c5] 0 _) (fun c hc e=>by injection e with e;omega)
   rw[HS9.o]
   exact h3.mono fun c hc _=>by omega
  ·rw[HS9.o,(Bk (w.heap.size+3) [.int .u8 (r.1.what.toNat:Int),.string ⟨r.1.text.toArray⟩,.int .i64 (r.1.tag:Int),.slice A5 r.1.kids.length c5] 0 _).cell_far ⟨B11,0,none⟩ (by simp;omega) (by simp;omega)]
   simp[go_sem,c115,f115,hn1,hn2]
  rw[HS9.o,(Bk (w.heap.size+3) [.int .u8 (r.1.what.toNat:Int),.string ⟨r.1.text.toArray⟩,.int .i64 (r.1.tag:Int),.slice A5 r.1.kids.length c5] 0 _).frozen_far ⟨B11,0,none⟩ (by simp;omega) (by simp;omega)]
  simp[go_sem,f115,hn1,hn2]
structure V9(w W7 wr:World)(h0 h1 h2:Value)(l:Bool)(kv:Value)(xs:List (Vl × Value)):Prop where
 bel:Below w.heap.size w wr
 keep:Below (w.heap.size+5) W7 wr
 st:Rm (w.heap.size+7) (w.heap.size+5) wr h0 h1 h2 kv kv xs
 c6:wr.cell? ⟨w.heap.size+6,0,none⟩=some (.bool l)
 f6:wr.frozen? ⟨w.heap.size+6,0,none⟩=false
section
variable {w W7 wr W W' W1:World} {h0 h1 h2 kv u8 u9 u10:Value} {l l' l8 l9 l10 l12:Bool} {xs:List (Vl × Value)} {r:Vl × Bool} {A:Option Addr} {c:Nat}
theorem V9.after(h:V9 w W7 wr h0 h1 h2 l kv xs)(hb:Below wr.heap.size wr W):V9 w W7 W h0 h1 h2 l kv xs:=by
 have hlt:w.heap.size+6<wr.heap.size:=h.st.bs
 exact⟨h.bel.trans (hb.mono h.bel.size),h.keep.trans (hb.mono (by omega)),h.st.after hb,(hb.cell (p:=⟨w.heap.size+6,0,none⟩) hlt).trans h.c6,(hb.frozen (p:=⟨w.heap.size+6,0,none⟩) hlt).trans h.f6⟩
theorem V9.one(h:V9 w W7 wr h0 h1 h2 l kv xs)(hg:wr.grownBy W (some (w.heap.size+6)))(hc:W.cell? ⟨w.heap.size+6,0,none⟩=some (.bool l'))(hf:W.frozen? ⟨w.heap.size+6,0,none⟩=false):V9 w W7 W h0 h1 h2 l' kv xs:=
 ⟨h.bel.grown hg h.bel.size (fun k e=>by injection e with e;omega),h.keep.grown hg (by have:=h.st.bs;omega) (fun k e=>by injection e with e;omega),h.st.step hg (by omega) (by omega),hc,hf⟩
structure Ky(w W7 W1:World)(h0 h1 h2:Value)(l:Bool)(A:Option Addr)(c:Nat)(xs:List (Vl × Value))(r:Vl × Bool)(l8 l9 l10 l12:Bool)(u8 u9 u10:Value)(W:World):Prop where
 s0:l8=false->Below W1.heap.size W1 W
 s1:l8=true->l9=false->∃sl,u8=D9 r.1 sl/\Dx (fun c=>W1.heap.size<=c) W sl r.1.kids/\V9 w W7 W h0 h1 h2 (l || r.2) (.slice A xs.length c) xs
 s2:l9=true->l10=false->∃W8 sl,W=W8.alloc (.cells (J5 (r.1,sl)).toArray 40)/\u9=.slice (some ⟨W8.heap.size,0,none⟩) 1 1/\Dx (fun c=>W1.heap.size<=c) W8 sl r.1.kids/\V9 w W7 W8 h0 h1 h2 (l || r.2) (.slice A xs.length c) xs
 s3:l10=true->l12=false->∃sl A6 c6,u10=.slice A6 (xs.length+1) c6/\Rm (w.heap.size+7) (w.heap.size+5) W h0 h1 h2 (.slice A xs.length c) u10 (xs++[(r.1,sl)])/\Below w.heap.size w W/\Below (w.heap.size+5) W7 W/\W.cell? ⟨w.heap.size+6,0,none⟩=some (.bool (l || r.2))/\W.frozen? ⟨w.heap.size+6,0,none⟩=false
 s4:l12=true->∃sl A6 c6,V9 w W7 W h0 h1 h2 (l || r.2) (.slice A6 (xs.length+1) c6) (xs++[(r.1,sl)])
theorem Ky.start:Ky w W7 W1 h0 h1 h2 l A c xs r false false false false u8 u9 u10 W1:=
 ⟨fun _=>Aq _ _,fun h=>Bool.noConfusion h,fun h=>Bool.noConfusion h,fun h=>Bool.noConfusion h,fun h=>Bool.noConfusion h⟩
theorem Ky.c3(h:Ky w W7 W1 h0 h1 h2 l A c xs r l8 l9 l10 l12 u8 u9 u10 W)(hl:V9 w W7 W1 h0 h1 h2 l (.slice A xs.length c) xs)(h10:l10=false):W.cell? ⟨w.heap.size+5,3,none⟩=some (.slice A xs.length c):=by
 cases e8:l8 with
 |false=>exact(hl.after (h.s0 e8)).st.c3
 |true=>
  cases e9:l9 with
  |false=>obtain⟨_,_,_,hL⟩:=h.s1 e8 e9;exact hL.st.c3
  |true=>obtain⟨W8,sl,rfl,_,_,hL⟩:=h.s2 e9 h10;exact(hL.after ((Aq _ _).alloc (Ap _) _)).st.c3
theorem Ky.pre(h:Ky w W7 W1 h0 h1 h2 l A c xs r l8 l9 l10 l12 u8 u9 u10 W)(h8:l8=false)(h9:l9=false)(h10:l10=false)(h12:l12=false)(hb:Below W.heap.size W W'):Ky w W7 W1 h0 h1 h2 l A c xs r l8 l9 l10 l12 u8 u9 u10 W':=by
 subst h8 h9 h10 h12
 exact⟨fun _=>(h.s0 rfl).trans (hb.mono (h.s0 rfl).size),fun h=>Bool.noConfusion h,fun h=>Bool.noConfusion h,fun h=>Bool.noConfusion h,fun h=>Bool.noConfusion h⟩
theorem Ky.put8{sl:Value}(hs0:Below W1.heap.size W1 W)(hl:V9 w W7 W1 h0 h1 h2 l (.slice A xs.length c) xs)(h9:l9=false)(h10:l10=false)(h12:l12=false)(hs:Dx (fun c=>W.heap.size<=c) W' sl r.1.kids)(hg:W.grownBy W' (some (w.heap.size+6)))(hc:W'.cell? ⟨w.heap.size+6,0,none⟩=some (.bool (l || r.2)))(hf:W'.frozen? ⟨w.heap.size+6,0,none⟩=false):
  Ky w W7 W1 h0 h1 h2 l A c xs r true l9 l10 l12 (D9 r.1 sl) u9 u10 W':=by
 subst h9 h10 h12
 exact⟨fun h=>Bool.noConfusion h,fun _ _=>⟨sl,rfl,hs.mono fun c hc _=>Nat.le_trans hs0.size hc,(hl.after hs0).one hg hc hf⟩,fun h=>Bool.noConfusion h,fun h=>Bool.noConfusion h,fun h=>Bool.noConfusion h⟩
theorem Ky.put9(h:Ky w W7 W1 h0 h1 h2 l A c xs r l8 l9 l10 l12 u8 u9 u10 W)(h8:l8=true)(h9:l9=false)(h10:l10=false)(h12:l12=false):∃sl,u8=D9 r.1 sl/\(∃A n c,sl=.slice A n c) /\
  Ky w W7 W1 h0 h1 h2 l A c xs r l8 true l10 l12 u8 (.slice (some ⟨W.heap.size,0,none⟩) 1 1) u10 (W.alloc (.cells (J5 (r.1,sl)).toArray 40)):=by
 obtain⟨sl,e,hs,hL⟩:=h.s1 h8 h9
 subst h10 h12
 exact⟨sl,e,by obtain⟨A,c,e⟩:=hs.form;exact⟨A,_,c,e⟩,fun h=>absurd (h8.symm.trans h) (by decide),fun _ h=>Bool.noConfusion h,fun _ _=>⟨W,sl,rfl,rfl,hs,hL⟩,fun h=>Bool.noConfusion h,fun h=>Bool.noConfusion h⟩
theorem Ky.put10{W8:World}{sl v:Value}(hL:V9 w W7 W8 h0 h1 h2 (l || r.2) (.slice A xs.length c) xs)(hl:V9 w W7 W1 h0 h1 h2 l (.slice A xs.length c) xs)(hs:Dx (fun c=>W1.heap.size<=c) W8 sl r.1.kids)(h8:l8=true)(h9:l9=true)(h12:l12=false)
  (hown:W.ownsRow (w.heap.size+7) 40 4 v (xs.length+1) (xs.flatMap J5++J5 (r.1,sl))) (hg:W8.grownBy W (Value.slice A xs.length c).ownBlock) (hwh:v.ownBlock=(Value.slice A xs.length c).ownBlock\/∃k,v.ownBlock=some k/\W8.heap.size<=k):
  Ky w W7 W1 h0 h1 h2 l A c xs r l8 l9 true l12 u8 u9 v W/\∃A6 c6,v=.slice A6 (xs.length+1) c6:=by
 have hk:Dx (fun c1=>w.heap.size+7<=c1/\(Value.slice A xs.length c).ownBlock≠some c1) W8 sl r.1.kids:=hs.mono fun c1 hc _=>⟨Nat.le_trans hl.st.bs hc,fun e=>by have:=(hl.st.row.lt c1 e).2;omega⟩
 have hK:=hL.st.app (x:=(r.1,sl)) hk hown hg hwh
 have hv:∃A6 c6,v=.slice A6 (xs.length+1) c6:=by
  rcases hown.2 with⟨_,e0⟩|⟨g,cap,cur,e,_⟩
  ·omega
  exact⟨_,cap,e⟩
 obtain⟨A6,c6,e6⟩:=hv
 have hlo:∀k,(Value.slice A xs.length c).ownBlock=some k->w.heap.size+7<=k:=fun k e=>(hL.st.row.lt k e).1
 have hne:some (w.heap.size+6)≠(Value.slice A xs.length c).ownBlock:=fun e=>by have:=hlo _ e.symm;omega
 subst h12
 exact⟨⟨fun h=>absurd (h8.symm.trans h) (by decide),fun _ h=>absurd (h9.symm.trans h) (by decide),fun _ h=>Bool.noConfusion h,fun _ _=>⟨sl,A6,c6,e6,hK,hL.bel.grown hg hL.bel.size (fun k e=>by have:=hlo k e;omega),hL.keep.grown hg (by have:=hL.st.bs;omega) (fun k e=>by have:=hlo k e;omega),hg.cell hL.c6 hne,(hg.frozen_far ⟨w.heap.size+6,0,none⟩ (show w.heap.size+6<W8.heap.size from hL.st.bs) hne).trans hL.f6⟩,fun h=>Bool.noConfusion h⟩,A6,c6,e6⟩
theorem Ky.put12(h:Ky w W7 W1 h0 h1 h2 l A c xs r l8 l9 l10 l12 u8 u9 u10 W)(h8:l8=true)(h9:l9=true)(h10:l10=true)(h12:l12=false)(hW:W'=W.setCell ⟨w.heap.size+5,3,none⟩ u10):Ky w W7 W1 h0 h1 h2 l A c xs r l8 l9 l10 true u8 u9 u10 W':=by
 subst hW
 obtain⟨sl,A6,c6,e6,hK,hb,hk,hc,hf⟩:=h.s3 h10 h12
 have hg:=At W (w.heap.size+5) 3 u10
 have hS:=hK.store
 rw[e6]at hS hg ⊢
 have hlt:w.heap.size+6<W.heap.size:=hK.bs
 exact⟨fun h=>absurd (h8.symm.trans h) (by decide),fun _ h=>absurd (h9.symm.trans h) (by decide),fun _ h=>absurd (h10.symm.trans h) (by decide),fun _ h=>Bool.noConfusion h,fun _=>⟨sl,A6,c6,hb.setCell (p:=⟨w.heap.size+5,3,none⟩) (show w.heap.size<=w.heap.size+5 by omega) _,hk.setCell (p:=⟨w.heap.size+5,3,none⟩) (Ap (w.heap.size+5)) _,hS,hg.cell hc (by simp),(hg.frozen_far ⟨w.heap.size+6,0,none⟩ hlt (by simp)).trans hf⟩⟩
end
end Go.Proofs.YtkgkoicedddkmaaGreatDoor
