/- Texts joined. Conditions: as each theorem names them. -/
import Derived.Test.YtkgkoicedddkmaaGreatDoorC22
set_option maxRecDepth 100000
set_option maxHeartbeats 32000000
set_option linter.unusedVariables false
set_option linter.unusedSimpArgs false
namespace Go.Proofs.YtkgkoicedddkmaaGreatDoor
open Go.RowKit Go.Proofs.Tryz
section
attribute [local go_sem] Qiz Qii Qib Qgw ByteArray.mk_append_mk
theorem Zs(p:Value)(xs:List PT)(hok:∀y∈xs,Ep y.ty)(n:Nat)(k:Kd)(w:World)(hsc:Q9 w p xs)(hk:Cw k)(hs:k.signs=[])(hb:k.base=[64])(x:PT)(hx:Ef xs k.name=some x)
  (hn:n<=9) (ih:x.ty.sort=85->∀f fs,x.ty.fields=f::fs->∀W,Q9 W p xs->Calls prog 83 #[p,D2 f.kind] W (Gc (C9 (Ae xs) n f.kind) W)):
  Calls prog 83 #[p,D2 k] w (Gc (C9 (Ae xs) (n+1) k) w):=by
 have Hlen:=Aa (Qf (Ae xs) (fun t ht=>by obtain⟨y,hy,rfl⟩:=List.mem_map.1 ht;exact hok y hy))
 have HF:=Aa (show C9 (Ae xs) (n+1) k=if x.ty.sort=82 then[123,125]else match x.ty.fields with|[]=>[]|f::_=>if x.ty.sort=69 then 35::Bb f.tag else 60::(Bb f.tag++61::(C9 (Ae xs) n f.kind++[62]))from by
  rw[C9,if_neg (by rw[hs];decide),if_neg (by rw[hs];decide),if_neg (by rw[hb];decide),if_neg (by rw[hb];decide),if_neg (by rw[hb];decide),Gf,hx];rfl)
 have hxm:=(Fc hx).1
 have Hto:=Aa (hok _ hxm)
 have hnl:=H8 hk
 have Hsc:=Aa hsc
 obtain⟨pb,A,cc,mb,rfl,q0,q1,q2,q3,q4,htys,_⟩:=hsc
 obtain⟨z0,_,z1,z2,z3,z4,A8,c,hz8,hl8',hrow8⟩:=htys x hxm
 rw[hz8]at z3
 have Hrow:=Aa hrow8
 have Ih:=Aa ih
 have Hlk:=Aa (fun W (h:Below w.heap.size w W)=>show (Instr.lookup 120 (.map (some mb)) (.string ⟨k.name.toArray⟩) false).run prog W=.ok (.pointer (some ⟨x.blk,0,none⟩)) W from by
  have:=Ey (Dd.below q4 h) k.name (by omega);rw[hx]at this;exact this)
 have hmb:=q4.lt
 unfold D2
 rw[hs,hb]
 clear hk hs hb hx q1 q3 q4 htys hrow8 ih hok hz8 z2 z4 hxm
 go_enter func83,ntmps83
 go_wp2_with fail
 refine(Jg _ _ _).mono ?_
 rintro e w1 ⟨rfl,hb1⟩
 obtain⟨hc1,_,hzz⟩:=By hb1
 have y1:w1.cell? ⟨w.heap.size,1,none⟩=some (.string ⟨#[64]⟩):=(hc1 w.heap.size 1 (by simp)).trans (by simp)
 have y2:w1.cell? ⟨w.heap.size,2,none⟩=some (.string ⟨k.name.toArray⟩):=(hc1 w.heap.size 2 (by simp)).trans (by simp)
 have Hb1:=Aa (show Below w.heap.size w w1 from((Aq w.heap.size w).alloc (Ap _) _).trans (hb1.mono (by simp)))
 have hz1:w.heap.size<w1.heap.size:=by have:=hb1.size;simp at this;omega
 have m1:w1.cell? ⟨pb,1,none⟩=some (.map (some mb)):=(Hb1.o.cell (p:=⟨pb,1,none⟩) q0).trans q2
 have u0:w1.cell? ⟨x.blk,0,none⟩=some (.int .u8 (x.ty.sort.toNat:Int)):=(Hb1.o.cell (p:=⟨x.blk,0,none⟩) z0).trans z1
 have u2:w1.cell? ⟨x.blk,2,none⟩=some (.slice A8 x.ty.fields.length c):=(Hb1.o.cell (p:=⟨x.blk,2,none⟩) z0).trans z3
 have Hlook:=Aa (fun q=>Hlk.o (w1.drewN q) (Hb1.o.trans ((below_drewN (Aq _ _) q).mono Hb1.o.size)))
 clear hc1 hzz hb1 q2 z1 z3
 go_wp2_with fail
 refine Ge [20,21,22,23,24,25,26,5]
  (fun i v W=>match i with|0=>v=.pointer (some ⟨pb,0,none⟩)|1=>v=.pointer (some ⟨pb,0,none⟩)|2=>v=.pointer (some ⟨pb,1,none⟩)|3=>v=.map (some mb)|4=>v=.pointer (some ⟨w.heap.size,2,none⟩)|5=>v=.string ⟨k.name.toArray⟩|6=>v=.pointer (some ⟨x.blk,0,none⟩)|7=>v=.pointer (some ⟨x.blk,0,none⟩)|_=>True)
  (fun L U W=>∃q,W=w1.drewN q) (⟨1,rfl⟩) ?_ ?_
 ·repeat (first|exact Ah.nil|(refine Ah.cons ?_ ?_;rotate_left))
  all_goals
   rintro L U W hL hpre HR Hdep K hK
   obtain⟨q,rfl⟩:=HR.o
   have hlq:=Hlook.o q
   first|(simp[Region.binds]at hpre;done)|simp[Region.binds]at hpre|clear hpre
  iterate 8
   ·go_simp
    exact kE hK HR.o
 rintro L U W hL hφ hR
 have e7:U 7=.pointer (some ⟨x.blk,0,none⟩):=hφ 7 (by decide)
 simp only[e7]
 clear hφ
 obtain⟨q,rfl⟩:=hR
 have Hbq:=Aa (Hb1.o.trans ((below_drewN (Aq w1.heap.size w1) q).mono Hb1.o.size))
 clear hL y1 y2 m1
 by_cases h82:x.ty.sort=82
 ·have t82:((x.ty.sort.toNat:Int) == 82)=true:=Be (d:=82) h82
  have HF2:=Aa (HF.o.trans (if_pos h82))
  clear h82 HF
  go_wp2_with fail
  go_ret
  exact⟨by rw[HF2.o];rfl,Hbq.o⟩
 have t82:((x.ty.sort.toNat:Int) == 82)=false:=Am (d:=82) h82
 have HF2:=Aa (HF.o.trans (if_neg h82))
 have hne:x.ty.fields≠[]:=fun h=>h82 (Hto.o.2.2.2.2 h)
 obtain⟨f,fs,hfs⟩:∃f fs,x.ty.fields=f::fs:=by
  cases h:x.ty.fields with
  |nil=>exact absurd h hne
  |cons f fs=>exact⟨f,fs,rfl⟩
 have hf0:0<x.ty.fields.length:=by rw[hfs];simp
 have hge:x.ty.fields[0]=f:=by simp[hfs]
 have hft:=Hto.o.2.2.1.1 f (by rw[hfs];simp)
 have htag:f.tag<=200:=hft.2.1
 have hdl:=Qe5 2 f.tag (by have e:10 ^ (2+1)=1000:=rfl;omega)
 have Hd:=Aa (fun W=>N9 f.tag f.tag W (Ap _) (by omega))
 have hi0:(0:Int)<(x.ty.fields.length:Int):=by omega
 have HF3:=Aa (show C9 (Ae xs) (n+1) k=if x.ty.sort=69 then 35::Bb f.tag else 60::(Bb f.tag++61::(C9 (Ae xs) n f.kind++[62]))from by rw[HF2.o,hfs])
 have Hfs:=Aa hfs
 obtain⟨b,off,rfl,hbl,hrg⟩:=Pv.range Hrow.o hf0
 rw[hge]at hrg
 have hrq:=Aj hrg hbl Hbq.o
 simp only[Nat.zero_mul,Nat.add_zero]at hrq
 have g0:(w1.drewN q).cell? ⟨b,off,none⟩=some (.int .i64 (f.tag:Int)):=by simpa using Ab hrq 0 rfl
 have G2:=Aa (Ab hrq 2 rfl)
 have G3:=Aa (Ab hrq 3 rfl)
 have G4:=Aa (Ab hrq 4 rfl)
 have H82:=Aa h82
 clear HF2 HF h82 hne hfs hge hft hrg hrq
 by_cases h69:x.ty.sort=69
 ·have t69:((x.ty.sort.toNat:Int) == 69)=true:=Be (d:=69) h69
  have HF4:=Aa (HF3.o.trans (if_pos h69))
  clear h69 HF3
  go_wp2_with fail
  refine(Hd.o _).mono ?_
  rintro e w2 ⟨rfl,hb2⟩
  go_wp2_with fail
  go_ret
  exact⟨by rw[HF4.o];simp,Hbq.o.trans (hb2.mono Hbq.o.size)⟩
 have t69:((x.ty.sort.toNat:Int) == 69)=false:=Am (d:=69) h69
 have HF4:=Aa (HF3.o.trans (if_neg h69))
 have h85:x.ty.sort=85:=by
  rcases Hto.o.1 with h|h|h
  ·exact absurd h H82.o
  ·exact h
  exact absurd h h69
 have Ih2:=Aa (Ih.o h85 f fs Hfs.o)
 unfold D2 at Ih2
 have hsl:=Hlen.o n f.kind
 generalize C9 (Ae xs) n f.kind=sl at *
 clear h69 HF3 h85 Ih
 go_wp2_with fail
 obtain⟨W0,hW0⟩:∃W0,W0=w1.drewN q:=⟨_,rfl⟩
 rw[<-hW0]at Hbq g0 G2 G3 G4 ⊢
 have Y2:=Aa (show W0.cell? ⟨x.blk,2,none⟩=some (.slice (some ⟨b,off,none⟩) x.ty.fields.length c)from by rw[hW0];exact u2)
 have Y0:=Aa g0
 have Y3:=Aa (show W0.cell? ⟨b,off+2,none⟩=some (.string ⟨f.kind.signs.toArray⟩)from G2.o)
 have Y4:=Aa (show W0.cell? ⟨b,off+3,none⟩=some (.string ⟨f.kind.base.toArray⟩)from G3.o)
 have Y5:=Aa (show W0.cell? ⟨b,off+4,none⟩=some (.string ⟨f.kind.name.toArray⟩)from G4.o)
 have Hx5:=Aa (show x.blk<W0.heap.size from Nat.lt_of_lt_of_le z0 Hbq.o.size)
 have Hb5:=Aa (show b<W0.heap.size from Nat.lt_of_lt_of_le hbl Hbq.o.size)
 have Hsc0:=Aa (Hsc.o.below Hbq.o)
 clear hW0 g0 u0 u2
 refine Ge [44,45,46,47,48,49,50,51,52,53,54,55,56,57,58,59,60,61,62,63,64,4]
  (fun i v W=>match i with|0=>v=.pointer (some ⟨x.blk,0,none⟩)|1=>v=.pointer (some ⟨x.blk,0,none⟩)|2=>v=.pointer (some ⟨x.blk,2,none⟩)|3=>v=.slice (some ⟨b,off,none⟩) x.ty.fields.length c|4=>v=.pointer (some ⟨b,off,none⟩)|5=>v=.pointer (some ⟨b,off,none⟩)|6=>v=.int .i64 (f.tag:Int)|7=>v=.string ⟨(Bb f.tag).toArray⟩|8=>v=.string ⟨(60::Bb f.tag).toArray⟩|9=>v=.string ⟨(60::(Bb f.tag++[61])).toArray⟩|10=>v=.pointer (some ⟨pb,0,none⟩)|11=>v=.pointer (some ⟨x.blk,0,none⟩)|12=>v=.pointer (some ⟨x.blk,0,none⟩)|13=>v=.pointer (some ⟨x.blk,2,none⟩)|14=>v=.slice (some ⟨b,off,none⟩) x.ty.fields.length c|15=>v=.pointer (some ⟨b,off,none⟩)|16=>v=.pointer (some ⟨b,off+2,none⟩)|17=>v=.agg #[.string ⟨f.kind.signs.toArray⟩,.string ⟨f.kind.base.toArray⟩,.string ⟨f.kind.name.toArray⟩]|18=>v=.string ⟨(sl).toArray⟩|19=>v=.string ⟨(60::(Bb f.tag++61::sl)).toArray⟩|20=>v=.string ⟨(60::(Bb f.tag++61::(sl++[62]))).toArray⟩|21=>v=.string ⟨(60::(Bb f.tag++61::(sl++[62]))).toArray⟩|_=>True)
  (fun L U W=>Below W0.heap.size W0 W) ((Aq _ _).drew) ?_ ?_
 ·repeat (first|exact Ah.nil|(refine Ah.cons ?_ ?_;rotate_left))
  all_goals
   rintro L U W hL hpre HR Hdep K hK
   have hB:=HR.o
   have c2:=(hB.cell (p:=⟨x.blk,2,none⟩) Hx5.o).trans Y2.o
   have c0:=(hB.cell (p:=⟨b,off,none⟩) Hb5.o).trans Y0.o
   have c3:=(hB.cell (p:=⟨b,off+2,none⟩) Hb5.o).trans Y3.o
   have c4:=(hB.cell (p:=⟨b,off+3,none⟩) Hb5.o).trans Y4.o
   have c5:=(hB.cell (p:=⟨b,off+4,none⟩) Hb5.o).trans Y5.o
   have c4':W.cell? ⟨b,off+2+1,none⟩=_:=c4
   have c5':W.cell? ⟨b,off+2+1+1,none⟩=_:=c5
   have c5'':W.cell? ⟨b,off+2+2,none⟩=_:=c5
   first|(simp[Region.binds]at hpre;done)|simp[Region.binds]at hpre|clear hpre
  iterate 7
   ·go_simp
    exact kE hK HR.o
  ·go_simp
   refine(Hd.o _).mono ?_
   rintro e w3 ⟨rfl,hb3⟩
   exact hK _ _ _ rfl Ac (hB.trans (hb3.mono hB.size)) (by simp[Act.put,hpre])
  ·go_simp
   rw[if_neg (by first|omega|(simp;omega))]
   go_simp
   exact kE hK HR.o
  ·go_simp
   rw[if_neg (by first|omega|(simp;omega))]
   go_simp
   exact kE hK HR.o
  iterate 8
   ·go_simp
    exact kE hK HR.o
  ·go_simp
   refine(Ih2.o _ (Hsc0.o.below hB)).mono ?_
   rintro e w3 ⟨rfl,hb3⟩
   exact hK _ _ _ rfl Ac (hB.trans (hb3.mono hB.size)) (by simp[Act.put,hpre])
  ·go_simp
   rw[if_neg (by first|omega|(simp;omega))]
   go_simp
   exact kE hK HR.o
  ·go_simp
   rw[if_neg (by first|omega|(simp;omega))]
   go_simp
   exact kE hK HR.o
  ·go_simp
   exact kE hK HR.o
 rintro L U W hL hφ hR
 have e21:U 21=.string ⟨(60::(Bb f.tag++61::(sl++[62]))).toArray⟩:=hφ 21 (by decide)
 simp only[e21]
 clear hφ
 have Hb9:=Aa (Hbq.o.trans (hR.mono Hbq.o.size))
 clear hR
 go_wp2_with fail
 go_ret
 exact⟨by rw[HF4.o];rfl,Hb9.o⟩
theorem Qu(p:Value)(S:List Ty)(n:Nat)(k:Kd)(w:World)(hk:Cw k)(h:¬(k.signs=[]/\k.base=[64])):
  Calls prog 83 #[p,D2 k] w (Gc (C9 S (n+1) k) w):=by
 unfold D2
 cases hs:k.signs with
 |cons c t=>
  have hc:=Qk hk hs
  have hl:=hk.2.2
  unfold Bj at hl
  rw[hs]at hl
  rw[Ny _ _ k c t hs hc]
  exact Zf p c t _ _ w hc (by simp at hl;omega)
 |nil=>
  have hb:k.base≠[64]:=fun hb=>h ⟨hs,hb⟩
  rw[Mj _ _ k hs (Mt hk hs hb).2]
  exact Vd p k.base _ w (Mt hk hs hb).2
theorem Qa7(p:Value)(xs:List PT)(hok:∀x∈xs,Ep x.ty)(hS:Fw (Ae xs)):∀(n:Nat),n<=9->∀(k:Kd) (w:World),Q9 w p xs->Cw k->Bx (Ae xs) k->Tv (Ae xs) n k ->
  Calls prog 83 #[p,D2 k] w (Gc (C9 (Ae xs) (n+1) k) w):=by
 intro n
 induction n with
 |zero=>
  intro _ k w hsc hk hr he
  refine Qu p _ 0 k w hk (fun h=>?_)
  obtain⟨t,_,h2⟩:=he h.1 h.2
  exact absurd h2 (by simp[Bv])
 |succ n ih=>
  intro hn k w hsc hk hr he
  by_cases hsb:k.signs=[]/\k.base=[64]
  ·obtain⟨hs,hb⟩:=hsb
   have h1:=hr hb
   rw[Gf]at h1
   cases hx:Ef xs k.name with
   |none=>rw[hx]at h1;cases h1
   |some x=>
    have hft:Bp (Ae xs) k.name=some x.ty:=(Fc hx).2.2
    have hto:Ep x.ty:=hok _ (Fc hx).1
    refine Zs p xs hok (n+1) k w hsc hk hs hb x hx hn (fun h85 f fs hfs W hW=>?_)
    have hrf:Bx (Ae xs) f.kind:=hS x.ty (Cu hft).1 (by rw[h85];decide) f (by rw[hfs];simp)
    have hkf:Cw f.kind:=((hto.2.2.1.1 f (by rw[hfs];simp)).2.2.2.2 (by rw[h85];decide)).1
    exact ih (by omega) f.kind W hW hkf hrf (Sq he hs hb hft h85 hfs hrf)
  exact Qu p _ (n+1) k w hk hsb
theorem Qa1(p:Value)(xs:List PT)(h:Jc (Ae xs))(k:Kd)(w:World)(hsc:Q9 w p xs)(hk:Cw k)(hr:Bx (Ae xs) k):
  Calls prog 83 #[p,D2 k] w (Gc (Ry (Ae xs) k) w):=
 Qa7 p xs (fun x hx=>h.1.1 x.ty (List.mem_map_of_mem hx)) h.2.1 9 (Ap _) k w hsc hk hr (Yi h hr)
theorem Td(p:Value)(xs:List PT)(h:Jc (Ae xs))(f:Fd)(b o:Nat)(w:World)(hsc:Q9 w p xs)(hf:w.rangeAt b o (Qz f))(hk:Cw f.kind)(hr:Bx (Ae xs) f.kind)(hl:f.given.length<=1000):
  Calls prog 55 #[p,.pointer (some ⟨b,o,none⟩)] w (Gc (Jp (Ae xs) f) w):=by
 have HF:=Aa (show Jp (Ae xs) f=if f.given=[]then Ry (Ae xs) f.kind else f.given from rfl)
 have Hs:=Aa (fun W (h1:Q9 W p xs)=>Qa1 p xs h f.kind W h1 hk hr)
 have Hsc:=Aa hsc
 unfold D2 at Hs
 have c2:w.cell? ⟨b,o+2,none⟩=some (.string ⟨f.kind.signs.toArray⟩):=Ab hf 2 rfl
 have c3:w.cell? ⟨b,o+3,none⟩=some (.string ⟨f.kind.base.toArray⟩):=Ab hf 3 rfl
 have c4:w.cell? ⟨b,o+4,none⟩=some (.string ⟨f.kind.name.toArray⟩):=Ab hf 4 rfl
 have c5:w.cell? ⟨b,o+5,none⟩=some (.string ⟨f.given.toArray⟩):=Ab hf 5 rfl
 have c3':w.cell? ⟨b,o+2+1,none⟩=some (.string ⟨f.kind.base.toArray⟩):=c3
 have c4':w.cell? ⟨b,o+2+1+1,none⟩=some (.string ⟨f.kind.name.toArray⟩):=c4
 have c4'':w.cell? ⟨b,o+2+2,none⟩=some (.string ⟨f.kind.name.toArray⟩):=c4
 clear h hk hr hsc hf
 by_cases hg:f.given=[]
 ·have HF2:=Aa (HF.o.trans (if_pos hg))
  rw[hg]at c5
  clear hg HF
  go_enter func55,ntmps55
  go_wp2_with fail
  refine(Hs.o _ Hsc.o).mono ?_
  rintro e w1 ⟨rfl,hb1⟩
  go_wp2_with fail
  go_ret
  exact⟨by rw[HF2.o];rfl,hb1⟩
 have HF2:=Aa (HF.o.trans (if_neg hg))
 have t1:f.given.isEmpty=false:=by simpa using hg
 have t2:(!f.given.isEmpty)=true:=by simp[t1]
 clear hg HF
 go_enter func55,ntmps55
 go_wp2_with fail
 go_ret
 exact⟨by rw[HF2.o];rfl,Aq _ _⟩
def Po(w:World)(b:Nat)(p:Value)(R:Nat)(t:List UInt8)(bad:Bool)(W:World):Prop:=Df w b p t bad W/\W.there R 0 4/\w.heap.size<=R/\R<W.heap.size
theorem Po.post{w W W':World}{b R:Nat}{p:Value}{t:List UInt8}{bad:Bool}(h:Po w b p R t bad W)(hb:Below W.heap.size W W'):Po w b p R t bad W':=
 ⟨h.1.post hb,Al h.2.1 h.2.2.2 hb,h.2.2.1,Nat.lt_of_lt_of_le h.2.2.2 hb.size⟩
theorem Po.step{w W W':World}{b R:Nat}{p:Value}{t t':List UInt8}{bad bad':Bool}(h:Po w b p R t bad W)(hb:b<w.heap.size)(hs:Df W b p t' bad' W'):Po w b p R t' bad' W':=
 ⟨h.1.trans hs,Gt h.2.1 hs.2 h.2.2.2 (by have:=h.2.2.1;simp;omega),h.2.2.1,Nat.lt_of_lt_of_le h.2.2.2 hs.2.size⟩
theorem Df.app{w W W':World}{b:Nat}{p:Value}{t:List UInt8}{bad:Bool}{row:Option Nat}(h:Df w b p t bad W)(hb:b<w.heap.size)(hg:W.grownBy W' row)(hr:∀k,row=some k->w.heap.size<=k):Df w b p t bad W':=by
 have hn:∀c,c<w.heap.size->some c≠row:=fun c hc e=>by have:=hr c e.symm;omega
 obtain⟨⟨h0,h1,h2,h3,h4⟩,hg0⟩:=h
 exact⟨⟨Nat.lt_of_lt_of_le h0 hg.size,h1.grown h0 hg (hn b hb),hg.cell h2 (hn b hb),hg.cell h3 (hn b hb),hg.cell h4 (hn b hb)⟩,⟨hg.os.trans hg0.os,hg.tape.trans hg0.tape,hg.output.trans hg0.output,Nat.le_trans hg0.size hg.size,fun k hk hne=>(hg.block k (Nat.lt_of_lt_of_le hk hg0.size) (hn k hk)).trans (hg0.block k hk hne)⟩⟩
theorem Po.app{w W W':World}{b R:Nat}{p:Value}{t:List UInt8}{bad:Bool}{row:Option Nat}(h:Po w b p R t bad W)(hb:b<w.heap.size)(hg:W.grownBy W' row)(hr:∀k,row=some k->R<k):Po w b p R t bad W':=
 ⟨h.1.app hb hg fun k e=>by have:=hr k e;have:=h.2.2.1;omega,Gt h.2.1 hg h.2.2.2 (fun e=>by have:=hr R e.symm;omega),h.2.2.1,Nat.lt_of_lt_of_le h.2.2.2 hg.size⟩
theorem Po.fin{w W w9:World}{b R:Nat}{p:Value}{t:List UInt8}{bad:Bool}{v:Vl}{sl:Value}(F:Po w b p R t bad W)(hb:b<w.heap.size)(HS:w9=W.setCells R 0 (Gu v sl))(hv:Dx (fun c=>R<c) W sl v.kids):
  Dx (fun c=>w.heap.size<=c) w9 sl v.kids/\Df w b p t bad w9/\w9.rangeAt R 0 (Gu v sl):=by
 subst HS
 have:=F.2.2.1
 exact⟨(hv.set (B:=R) (by omega) _).mono fun c hc _=>by omega,F.1.set (by omega) (by omega) _,World.rangeAt_setCells_same _ _ _ _ F.2.1⟩
def Qh9(w0 w:World)(b:Nat)(p:Value)(t:List UInt8)(N:Nat)(fs:List Fd)(r:Option ((Fd × Vl) × List UInt8))(e:Ending)(w':World):Prop:=
 ∃(v:Vl) (sl fp:Value) (t':List UInt8),e=.returned (.tuple #[D9 v sl,fp])/\Dx (fun c=>w.heap.size<=c) w' sl v.kids/\Df w b p t' r.isNone w'/\Bd v/\t'.length<=t.length/\(Bc v).length+t'.length<=t.length+8*N /\
  ((fp=.pointer none/\r=none)\/∃g x,Ji w0.heap.size w' fp (some g)/\v=De (g,x)/\Au fs g.tag=some g/\Bd x/\∀y,r=some y->y=((g,x),t'))
theorem Ji.via{B:Nat}{w0 W W':World}{v:Value}{o:Option Fd}(h:Ji B W v o)(h1:Below B w0 W)(h2:Below B w0 W'):Ji B W' v o:=by
 cases o with
 |none=>exact h
 |some f=>
  obtain⟨b,o,e,hb,hr⟩:=h
  exact⟨b,o,e,hb,fun j u hu=>(h2.cell (p:=⟨b,o+j,none⟩) hb).trans ((h1.cell (p:=⟨b,o+j,none⟩) hb).symm.trans (hr j u hu))⟩
theorem Qag(fs:List Fd)(t:List UInt8):Fq fs t=if Gg 200 t then(Au fs (G0 t)).map (fun f=>(f,t.dropWhile Bh))else none:=by
 unfold Fq
 rw[Qas]
 unfold Gg G0
 cases h:Cn (t.takeWhile Bh)with
 |none=>simp
 |some n=>
  have:=(Ca.1 h).1
  simp only[decide_eq_true_eq,this,if_true,Option.getD_some]
  by_cases h2:n<=200
  ·rw[if_pos h2,if_pos h2];cases Au fs n<;>rfl
  rw[if_neg h2,if_neg h2]
theorem Qex(K:Kd->List UInt8->Option (Vl × List UInt8))(fs:List Fd)(t:List UInt8):Cy K fs t=match Au fs (G0 t)with
  |none=>none
  |some f=>match Ba [61] (t.dropWhile Bh) (!Gg 200 t)with
   |none=>none
   |some q=>match K f.kind q with|some (v,z)=>some ((f,v),z)|none=>none:=by
 unfold Cy
 rw[Qag]
 simp only[Ci]
 cases Gg 200 t<;>cases Au fs (G0 t)<;>simp
 rfl
theorem Qg7(t:List UInt8)(h:Gg 200 t=true):(Bb (G0 t)).length+(t.dropWhile Bh).length=t.length:=by
 unfold Gg at h
 unfold G0
 cases hd:Cn (t.takeWhile Bh)with
 |none=>rw[hd]at h;cases h
 |some n=>
  have e:=(Ca.1 hd).2
  simp only[Option.getD_some]
  rw[<-e,<-List.length_append,List.takeWhile_append_dropWhile]
theorem Z5(w0:World)(b N:Nat)(p:Value)(S:List Ty)(x:PT)(hx:Px w0 x)(t:List UInt8)(w:World)(hw:Below w0.heap.size w0 w)(hb:w0.heap.size<=b)(bad:Bool)(h:Gb w b p t bad)(hl:t.length<=900)(hN:bad=false->t.length<=N)(hN2:N<=2000)
  (htg:∀f∈x.ty.fields,f.tag<=200) (H:∀f∈x.ty.fields,IvC w0 b p S N f.kind) (q:Option ((Fd × Vl) × List UInt8)) (hq:q=if bad then none else Cy (An S 1000 N) x.ty.fields t):
  Calls prog 106 #[.pointer (some ⟨b,0,none⟩),.pointer (some ⟨x.blk,0,none⟩)] w (Qh9 w0 w b p t N x.ty.fields q):=by
 have HQ:=Aa (hq.trans (by rw[Qex]))
 have Hnl:=Aa (Qg7 t)
 have HS:=Aa h
 have HW:=Aa hw
 have hb0:=h.1
 have hbn:¬(b=w.heap.size):=by omega
 have hnn:=Yq t
 have hdr:=Zk Bh t
 have Hn:=Aa (fun W (h:Gb W b p t bad)=>Ph b 200 p t bad W h (by omega) (by decide))
 have Hf:=Aa (fun W (hW:Below w0.heap.size w0 W)=>Nl w0 x hx (G0 t) W hW (by omega))
 have hxb:x.blk<w0.heap.size:=hx.1
 clear h hw hq
 obtain⟨b1,hb1⟩:∃b1,b1=(bad || !Gg 200 t):=⟨_,rfl⟩
 have Hb1:=Aa hb1
 rw[<-hb1]at Hn
 generalize t.dropWhile Bh=t1 at *
 have hm:=Eh 61 t1 b1
 have Hwt:=Aa (fun W (h:Gb W b p t1 b1)=>Db b p t1 [61] b1 W h (by omega))
 have Hlt0:=Aa (fun r (h:Ba [61] t1 b1=some r)=>Jo h)
 clear hb1
 cases hfo:Au x.ty.fields (G0 t)with
 |none=>
  rw[hfo]at Hf HQ
  have hq0:=Aa (show q=none from by have:=HQ.o;cases bad<;>simpa using this)
  generalize G0 t=n at *
  generalize (Ba [61] t1 b1).getD t1=t2 at *
  generalize (Ba [61] t1 b1).isNone=b2 at *
  clear hfo HQ Hnl
  go_enter func106,ntmps106
  go_wp2_with fail
  have F0:=Aa (show Po w b p w.heap.size t bad (w.alloc (.cells #[.int .u8 0,.string ⟨#[]⟩,.int .i64 0,.slice none 0 0] 40))from⟨⟨HS.o.grow ((Aq _ _).alloc (Ap _) _),B0 ((Aq _ _).alloc (Ap _) _) _⟩,Cc w [.int .u8 0,.string ⟨#[]⟩,.int .i64 0,.slice none 0 0] _,Ap _,by simp⟩)
  refine(Hn.o _ F0.o.1.1).mono ?_
  rintro e w2 ⟨rfl,hs2⟩
  have F2:=Aa (F0.o.step hb0 hs2)
  clear hs2
  go_wp2_with fail
  refine(Hf.o _ (F2.o.1.env HW.o hb)).mono ?_
  rintro e w3 ⟨fp,rfl,hfp,rfl⟩
  have hfp':fp=.pointer none:=hfp
  subst hfp'
  go_wp2_with fail
  refine(Hwt.o _ F2.o.1.1).mono ?_
  rintro e w4 ⟨rfl,hs4⟩
  have F4:=Aa (F2.o.step hb0 hs4)
  clear hs4
  have sb:=F4.o.1.1.2.1.live 2
  have s0:=F4.o.1.1.1
  have s2:=F4.o.1.1.2.2.2.2
  have F5:=Aa (F4.o.step hb0 ⟨F4.o.1.1.setBad true,At _ b 2 (.bool true)⟩)
  go_wp2_with ((with_reducible refine Ad (op:=⟨none,.store 40 _ _,_,_,_,none⟩) rfl 40 _ _ rfl w.heap.size 0 [.int .u8 0,.string ⟨#[]⟩,.int .i64 0,.slice none 0 0] ?_ ?_ ?_ ?_ ?_ ?_);rfl;rfl;(exact F5.o.2.1);kernel_rfl;(simp[Value.oneCell']);intro w9 HS9)
  have Z:=Po.fin (v:=En) (sl:=.slice none 0 0) F5.o hb0 HS9.o (Dx.nil _ _)
  refine bodyPost_ret (v:=.tuple #[.agg (Gu En (.slice none 0 0)).toArray,.pointer none]) (Ao results106 _ _ w.heap.size _ _ _ rfl rfl Z.2.2 underlying40 rfl (by kernel_rfl)) rfl ?_
  exact⟨En,.slice none 0 0,.pointer none,t2,rfl,Z.1,by rw[hq0.o];exact Z.2.1,Et (by decide) (by decide),by omega,by simp[En,Bc,Dz,Gs];omega,.inl ⟨rfl,hq0.o⟩⟩
 |some g=>
  obtain⟨hgt,hgm⟩:=As hfo
  have hg2:=htg g hgm
  have Hfg:=Aa (show Au x.ty.fields g.tag=some g by rw[hgt];exact hfo)
  rw[hfo]at Hf HQ
  simp only at HQ
  have HH:=Aa (H g hgm)
  cases hc:Ba [61] t1 b1 with
  |none=>
   have hq0:=Aa (show q=none from by
    rw[HQ.o]
    cases bad with
    |true=>rfl
    |false=>rw[if_neg (by decide)];rw[show Ba [61] t1 (!Gg 200 t)=none by have:=Hb1.o;rw[Bool.false_or]at this;rw[<-this];exact hc])
   rw[hc]at Hwt
   simp only[Option.isNone_none,Option.getD_none]at Hwt
   generalize G0 t=n at *
   clear hfo HQ Hnl hc hm
   subst hgt
   obtain⟨b2,hb2⟩:∃b2,b2=true:=⟨_,rfl⟩
   rw[<-hb2]at Hwt
   go_enter func106,ntmps106
   go_wp2_with fail
   have F0:=Aa (show Po w b p w.heap.size t bad (w.alloc (.cells #[.int .u8 0,.string ⟨#[]⟩,.int .i64 0,.slice none 0 0] 40))from⟨⟨HS.o.grow ((Aq _ _).alloc (Ap _) _),B0 ((Aq _ _).alloc (Ap _) _) _⟩,Cc w [.int .u8 0,.string ⟨#[]⟩,.int .i64 0,.slice none 0 0] _,Ap _,by simp⟩)
   refine(Hn.o _ F0.o.1.1).mono ?_
   rintro e w2 ⟨rfl,hs2⟩
   have F2:=Aa (F0.o.step hb0 hs2)
   clear hs2
   go_wp2_with fail
   refine(Hf.o _ (F2.o.1.env HW.o hb)).mono ?_
   rintro e w3 ⟨fp,rfl,hfp,rfl⟩
   obtain⟨fb,fo,rfl,hfb,hfr⟩:=hfp
   go_wp2_with fail
   refine(Hwt.o _ F2.o.1.1).mono ?_
   rintro e w4 ⟨rfl,hs4⟩
   have F4:=Aa (F2.o.step hb0 hs4)
   clear hs4
   have sb:=F4.o.1.1.2.1.live 2
   have s0:=F4.o.1.1.1
   have s2:=F4.o.1.1.2.2.2.2
   have F5:=Aa (F4.o.step hb0 ⟨F4.o.1.1.setBad true,At _ b 2 (.bool true)⟩)
   subst hb2
   go_wp2_with ((with_reducible refine Ad (op:=⟨none,.store 40 _ _,_,_,_,none⟩) rfl 40 _ _ rfl w.heap.size 0 [.int .u8 0,.string ⟨#[]⟩,.int .i64 0,.slice none 0 0] ?_ ?_ ?_ ?_ ?_ ?_);rfl;rfl;(exact F5.o.2.1);kernel_rfl;(simp[Value.oneCell']);intro w9 HS9)
   have Z:=Po.fin (v:=En) (sl:=.slice none 0 0) F5.o hb0 HS9.o (Dx.nil _ _)
   refine bodyPost_ret (v:=.tuple #[.agg (Gu En (.slice none 0 0)).toArray,.pointer none]) (Ao results106 _ _ w.heap.size _ _ _ rfl rfl Z.2.2 underlying40 rfl (by kernel_rfl)) rfl ?_
   exact⟨En,.slice none 0 0,.pointer none,t1,rfl,Z.1,by rw[hq0.o];exact Z.2.1,Et (by decide) (by decide),by omega,by simp[En,Bc,Dz,Gs];omega,.inl ⟨rfl,hq0.o⟩⟩
  |some t2=>
   have hlt:=Hlt0.o t2 hc
   have hbb:bad=false/\b1=false/\Gg 200 t=true:=by
    have h1:b1=false:=by
     cases b1 with
     |false=>rfl
     |true=>rw[Ci]at hc;simp at hc
    have h2:=Hb1.o
    rw[h1]at h2
    cases bad<;>cases hnb:Gg 200 t<;>simp[hnb]at h2 ⊢
    exact h1
   obtain⟨rfl,rfl,hnb⟩:=hbb
   have hnl:=Hnl.o hnb
   rw[hgt.symm]at hnl
   have hq0:=Aa (show q=(match An S 1000 N g.kind t2 with|some (v,z)=>some ((g,v),z)|none=>none)from by
    rw[HQ.o,if_neg (by decide),hnb]
    show (match Ba [61] t1 false with|none=>none|some q=>match An S 1000 N g.kind q with|some (v,z)=>some ((g,v),z)|none=>none)=_
    rw[hc])
   rw[hc]at Hwt
   simp only[Option.isNone_some,Option.getD_some]at Hwt
   have h2N:t2.length<N:=by have:=hN rfl;omega
   generalize G0 t=n at *
   clear hfo HQ Hnl hc hm Hb1 hnb Hlt0
   subst hgt
   go_enter func106,ntmps106
   go_wp2_with fail
   have F0:=Aa (show Po w b p w.heap.size t false (w.alloc (.cells #[.int .u8 0,.string ⟨#[]⟩,.int .i64 0,.slice none 0 0] 40))from⟨⟨HS.o.grow ((Aq _ _).alloc (Ap _) _),B0 ((Aq _ _).alloc (Ap _) _) _⟩,Cc w [.int .u8 0,.string ⟨#[]⟩,.int .i64 0,.slice none 0 0] _,Ap _,by simp⟩)
   refine(Hn.o _ F0.o.1.1).mono ?_
   rintro e w2 ⟨rfl,hs2⟩
   have F2:=Aa (F0.o.step hb0 hs2)
   clear hs2
   go_wp2_with fail
   refine(Hf.o _ (F2.o.1.env HW.o hb)).mono ?_
   rintro e w3 ⟨fp,rfl,hfp,rfl⟩
   obtain⟨fb,fo,rfl,hfb,hfr⟩:=hfp
   go_wp2_with fail
   refine(Hwt.o _ F2.o.1.1).mono ?_
   rintro e w4 ⟨rfl,hs4⟩
   have F4:=Aa (F2.o.step hb0 hs4)
   clear hs4
   have HFR:=Aa (show Ji w0.heap.size w4 (.pointer (some ⟨fb,fo,none⟩)) (some g)from Ji.via ⟨fb,fo,rfl,hfb,hfr⟩ (F2.o.1.env HW.o hb) (F4.o.1.env HW.o hb))
   have G4:=Aa (show w4.rangeAt fb fo (Qz g)from by obtain⟨a1,a2,a3,_,a5⟩:=HFR.o;injection a3 with a3;injection a3 with a3;injection a3 with a3 a4;subst a3 a4;exact a5)
   have s2:=F4.o.1.1.2.2.2.2
   have g2:=Ab G4.o 2 rfl
   have g3:=Ab G4.o 3 rfl
   have g4:=Ab G4.o 4 rfl
   have g3':w4.cell? ⟨fb,fo+2+1,none⟩=some (.string ⟨g.kind.base.toArray⟩):=g3
   have g4':w4.cell? ⟨fb,fo+2+1+1,none⟩=some (.string ⟨g.kind.name.toArray⟩):=g4
   have g4'':w4.cell? ⟨fb,fo+2+2,none⟩=some (.string ⟨g.kind.name.toArray⟩):=g4
   clear hfr
   have HV:=Aa (fun W (h1:Below w0.heap.size w0 W) (h2:Gb W b p t2 false)=>HH.o t2 false W h1 h2 (by omega) (fun _=>h2N))
   unfold D2 at HV
   simp only[Bool.false_eq_true,if_false]at HV
   go_wp2_with fail
   refine(HV.o _ (F4.o.1.env HW.o hb) F4.o.1.1).mono ?_
   rintro e w5 ⟨v,sl,t',rfl,hk5,hs5,hx5,hB5,hl5,hn5⟩
   obtain⟨A7,c7,rfl⟩:=hk5.form
   have F5:=Aa (F4.o.step hb0 hs5)
   have Hk5:=Aa hk5
   have Hx5:=Aa hx5
   have HB5:=Aa hB5
   have hz4:=F4.o.2.2.2
   clear hs5 hk5 hx5 hB5 g2 g3 g4 g3' g4' g4'' s2
   unfold D9
   go_wp2_with fail
   obtain⟨W6,hW6⟩:∃W6,W6=w5.alloc (.cells #[.int .u8 (v.what.toNat:Int),.string ⟨v.text.toArray⟩,.int .i64 (v.tag:Int),.slice A7 v.kids.length c7] 40):=⟨_,rfl⟩
   rw[<-hW6]
   have hb6:Below w5.heap.size w5 W6:=by rw[hW6];exact(Aq _ _).alloc (Ap _) _
   have F6:=Aa (F5.o.post hb6)
   have HP6:=Aa (HFR.o.via (F4.o.1.env HW.o hb) (F6.o.1.env HW.o hb))
   have X6:=Aa (show W6.rangeAt w5.heap.size 0 [.int .u8 (v.what.toNat:Int),.string ⟨v.text.toArray⟩,.int .i64 (v.tag:Int),.slice A7 v.kids.length c7]from by rw[hW6];exact Bw w5 [.int .u8 (v.what.toNat:Int),.string ⟨v.text.toArray⟩,.int .i64 (v.tag:Int),.slice A7 v.kids.length c7] _)
   have Hk6:=Aa (Hk5.o.after hb6)
   have hz6:w5.heap.size<W6.heap.size:=by rw[hW6];simp
   have HW6:=Aa (F6.o.1.env HW.o hb)
   have hz5:=F5.o.2.2.2
   generalize w5.heap.size=B7 at *
   clear hW6 hb6
   have D0:=Aa (show W6.cell? ⟨fb,fo,none⟩=some (.int .i64 (g.tag:Int))from by obtain⟨a1,a2,a3,_,a5⟩:=HP6.o;injection a3 with a3;injection a3 with a3;injection a3 with a3 a4;subst a3 a4;simpa using Ab a5 0 rfl)
   refine Bi [32,33,34,35,36,37,38,39,999,5] (by kernel_rfl) (by kernel_rfl) (by kernel_rfl) (fun u=>by dsimp only[Qbm,Bm,List.set,Nat.zero_add,Nat.reduceAdd])
    (fun ix u W=>match ix with|0=>u=.pointer (some ⟨fb,fo,none⟩)|1=>u=.pointer (some ⟨fb,fo,none⟩)|2=>u=.pointer (some ⟨fb,fo,none⟩)|3=>u=.int .i64 (g.tag:Int)|4=>u=.agg #[.int .u8 (v.what.toNat:Int),.string ⟨v.text.toArray⟩,.int .i64 (v.tag:Int),.slice A7 v.kids.length c7]|5=>∃c,u=.slice (some ⟨c,0,none⟩) 1 1|6=>∃c,u=.agg #[.int .u8 61,.string ⟨#[]⟩,.int .i64 (g.tag:Int),.slice (some ⟨c,0,none⟩) 1 1]|7=>u=.pointer (some ⟨fb,fo,none⟩)|9=>u=.pointer (some ⟨fb,fo,none⟩)|_=>True)
    (fun L U W=>(L 8=false->Below W6.heap.size W6 W)/\(L 5=true->L 8=false->∃W7,W=W7.alloc (.cells (J5 (v,.slice A7 v.kids.length c7)).toArray 40)/\U 5=.slice (some ⟨W7.heap.size,0,none⟩) 1 1/\Below W6.heap.size W6 W7)/\(L 6=true->U 6=.agg #[.int .u8 61,.string ⟨#[]⟩,.int .i64 (g.tag:Int),U 5]) /\
  (L 8=true->∃W7,W=(W7.alloc (.cells (J5 (v,.slice A7 v.kids.length c7)).toArray 40)).setCells w.heap.size 0 [.int .u8 61,.string ⟨#[]⟩,.int .i64 (g.tag:Int),.slice (some ⟨W7.heap.size,0,none⟩) 1 1]/\Below W6.heap.size W6 W7)) (fun _ _=>True) (fun _ _ _ _ _ h=>h) (⟨fun _=>(Aq _ _).drew,fun h=>Bool.noConfusion h,fun h=>Bool.noConfusion h,fun h=>Bool.noConfusion h⟩) ?_ ?_
   ·repeat (first|exact Ah.nil|(refine Ah.cons ?_ ?_;rotate_left))
    all_goals
     rintro L U W hL hpre hR hun hdep K hK
     have HR:=Aa hR
     obtain⟨R1,R2,R3,R4⟩:=HR.o
     have Hdep:=Aa hdep
     clear hun hdep hR
     first|(simp[Region.binds]at hpre;done)|simp[Region.binds]at hpre|clear hpre
    iterate 3
     ·go_simp
      exact kE hK HR.o
    ·have h6:L 6=false:=Ax Hdep.o 6 3 rfl hL
     have h8:L 8=false:=Ax Hdep.o 8 6 rfl h6
     have m0:=((R1 h8).cell (p:=⟨fb,fo,none⟩) (by have:=HW6.o.size;show fb<_;omega)).trans D0.o
     go_simp
     exact kE hK HR.o
    ·have h5:L 5=false:=Ax Hdep.o 5 4 rfl hL
     have h6:L 6=false:=Ax Hdep.o 6 5 rfl h5
     have h8:L 8=false:=Ax Hdep.o 8 6 rfl h6
     have m0:=((R1 h8).cell (p:=⟨B7,0,none⟩) hz6).trans (X6.o 0 _ rfl)
     have m1:=((R1 h8).cell (p:=⟨B7,1,none⟩) hz6).trans (X6.o 1 _ rfl)
     have m2:=((R1 h8).cell (p:=⟨B7,2,none⟩) hz6).trans (X6.o 2 _ rfl)
     have m3:=((R1 h8).cell (p:=⟨B7,3,none⟩) hz6).trans (X6.o 3 _ rfl)
     go_simp
     exact kE hK HR.o
    ·have h6:L 6=false:=Ax Hdep.o 6 5 rfl hL
     have h8:L 8=false:=Ax Hdep.o 8 6 rfl h6
     have hba:Below W.heap.size W (W.alloc (.cells (J5 (v,.slice A7 v.kids.length c7)).toArray 40)):=(Aq _ _).alloc (Ap _) _
     have u4:=hpre.2
     go_simp
     exact hK (.slice (some ⟨W.heap.size,0,none⟩) 1 1) _ _ ⟨W.heap.size,rfl⟩ Ac ⟨fun _=>(R1 h8).trans (hba.mono (R1 h8).size),fun _ _=>⟨W,rfl,rfl,R1 h8⟩,fun h=>absurd (h6.symm.trans (by simpa using h)) (by decide),fun h=>absurd (h8.symm.trans (by simpa using h)) (by decide)⟩ (by simp[Act.put,hpre])
    ·obtain⟨c,u5⟩:=hpre.2.2
     have u3:=hpre.1.2
     go_simp
     exact hK (.agg #[.int .u8 61,.string ⟨#[]⟩,.int .i64 (g.tag:Int),U 5]) _ _ ⟨c,by rw[u5]⟩ Ac ⟨R1,R2,fun _=>rfl,fun h=>R4 (by simpa using h)⟩ (by simp[Act.put,u3,u5])
    ·go_simp
     exact kE hK HR.o
    ·obtain⟨⟨l6,_⟩,_⟩:=hpre
     have u6:=R3 l6
     have l5:L 5=true:=by
      cases h5:L 5 with
      |true=>rfl
      |false=>exact absurd (l6.symm.trans (Ax Hdep.o 6 5 rfl h5)) (by decide)
     obtain⟨W7,rfl,u5,hb7⟩:=R2 l5 hL
     rw[u5]at u6
     rw[if_pos (by rfl)]
     refine wp_store_mid 40 _ _ rfl w.heap.size 0 ([.int .u8 61,.string ⟨#[]⟩,.int .i64 (g.tag:Int),.slice (some ⟨W7.heap.size,0,none⟩) 1 1]:List Value).toArray rfl u6 ((F6.o.post hb7).post ((Aq _ _).alloc (Ap _) _)).2.1 (by kernel_rfl) (by simp[Value.oneCell']) ?_
     exact hK undef _ _ Ac Ac ⟨fun h=>by simp at h,fun _ h=>by simp at h,fun _=>by show U 6=.agg #[.int .u8 61,.string ⟨#[]⟩,.int .i64 (g.tag:Int),U 5];rw[u5];exact u6,fun _=>⟨W7,rfl,hb7⟩⟩ rfl
    ·clear R1 R2 R3 R4
     go_simp
     exact hK (.pointer (some ⟨fb,fo,none⟩)) _ _ rfl Ac HR.o (by simp[Act.put,hpre])
   rintro L U W hL hφ hR
   have hφ9:=hφ 9 (by decide)
   clear hφ
   have e9:U 9=.pointer (some ⟨fb,fo,none⟩):=hφ9
   obtain⟨_,_,_,h4⟩:=hR
   obtain⟨W7,rfl,hb7⟩:=h4 (hL 8 (by decide))
   clear hL h4
   simp only[e9]
   clear hφ9
   go_wp2_with fail
   have F7:=Aa (F6.o.post hb7)
   have Hk7:=Aa (Hk6.o.after hb7)
   have hz7:=F7.o.2.2.2
   have Z:=Po.fin (v:=De (g,v)) (sl:=.slice (some ⟨W7.heap.size,0,none⟩) 1 1) (F7.o.post ((Aq _ _).alloc (Ap _) (.cells (J5 (v,.slice A7 v.kids.length c7)).toArray 40))) hb0 rfl (Hk7.o.one (T:=40) (fun c hc _=>by omega) (by omega))
   have HPz:=HP6.o.via (F6.o.1.env HW.o hb) (Z.2.1.env HW.o hb)
   refine bodyPost_ret (v:=.tuple #[.agg (Gu (De (g,v)) (.slice (some ⟨W7.heap.size,0,none⟩) 1 1)).toArray,.pointer (some ⟨fb,fo,none⟩)]) (Ao results106 _ _ w.heap.size _ _ _ rfl rfl Z.2.2 underlying40 rfl (by kernel_rfl)) rfl ?_
   have hx9:=Hx5.o
   refine⟨De (g,v),_,_,t',rfl,Z.1,?_,.mk (show g.tag<=1000000000 by omega) (by simp[Dc];omega) (by simp) (fun y hy=>by rw[List.mem_singleton]at hy;subst hy;exact HB5.o),by omega,by rw[Jz];simp only;omega,.inr ⟨g,v,HPz,rfl,Hfg.o,HB5.o,?_⟩⟩
   ·have e:q.isNone=(An S 1000 N g.kind t2).isNone:=by rw[hq0.o];cases An S 1000 N g.kind t2<;>rfl
    rw[e];exact Z.2.1
   intro y hy
   rw[hq0.o]at hy
   cases hr:An S 1000 N g.kind t2 with
   |none=>rw[hr]at hy;cases hy
   |some z=>
    obtain⟨z1,z2⟩:=z
    rw[hr]at hy
    simp only[Option.some.injEq]at hy
    obtain⟨e1,e2⟩:=hx9 _ hr
    simp only at e1 e2
    rw[<-hy,e1,e2]
structure Vb(B:Nat)(W:World)(h0 h1 h2 h3:Value):Prop where
 lt:B<W.heap.size
 bk:Pf W B
 c0:W.cell? ⟨B,0,none⟩=some h0
 c1:W.cell? ⟨B,1,none⟩=some h1
 c2:W.cell? ⟨B,2,none⟩=some h2
 c3:W.cell? ⟨B,3,none⟩=some h3
theorem Vb.new{w:World}{h0 h1 h2 h3:Value}{T:TypeId}:Vb w.heap.size (w.alloc (.cells #[h0,h1,h2,h3] T)) h0 h1 h2 h3:=⟨by simp,Pf.new _ _ _,by simp,by simp,by simp,by simp⟩
theorem Vb.grown{B:Nat}{W W':World}{h0 h1 h2 h3:Value}{row:Option Nat}(h:Vb B W h0 h1 h2 h3)(hg:W.grownBy W' row)(hn:some B≠row):Vb B W' h0 h1 h2 h3:=
 ⟨Nat.lt_of_lt_of_le h.lt hg.size,h.bk.grown h.lt hg hn,hg.cell h.c0 hn,hg.cell h.c1 hn,hg.cell h.c2 hn,hg.cell h.c3 hn⟩
theorem Vb.after{B:Nat}{W W':World}{h0 h1 h2 h3:Value}(h:Vb B W h0 h1 h2 h3)(hb:Below W.heap.size W W'):Vb B W' h0 h1 h2 h3:=h.grown (B0 hb none) (by simp)
theorem Vb.set2{B:Nat}{W:World}{h0 h1 h2 h3:Value}(h:Vb B W h0 h1 h2 h3)(v:Value):Vb B (W.setCell ⟨B,2,none⟩ v) h0 h1 v h3:=by
 have hf:=h.bk.live 2
 exact⟨by simpa using h.lt,h.bk.set _,by simp[go_sem,h.c0],by simp[go_sem,h.c1],by simp[go_sem,h.c2,hf],by simp[go_sem,h.c3]⟩
theorem Vb.set3{B:Nat}{W:World}{h0 h1 h2 h3:Value}(h:Vb B W h0 h1 h2 h3)(v:Value):Vb B (W.setCell ⟨B,3,none⟩ v) h0 h1 h2 v:=by
 have hf:=h.bk.live 3
 exact⟨by simpa using h.lt,h.bk.set _,by simp[go_sem,h.c0],by simp[go_sem,h.c1],by simp[go_sem,h.c2],by simp[go_sem,h.c3,hf]⟩
theorem Po.init{w:World}{b:Nat}{p:Value}{t:List UInt8}{bad:Bool}(h:Gb w b p t bad){T:TypeId}:Po w b p w.heap.size t bad (w.alloc (.cells #[.int .u8 0,.string ⟨#[]⟩,.int .i64 0,.slice none 0 0] T)):=
 ⟨⟨h.grow ((Aq _ _).alloc (Ap _) _),B0 ((Aq _ _).alloc (Ap _) _) _⟩,Cc w [.int .u8 0,.string ⟨#[]⟩,.int .i64 0,.slice none 0 0] _,Ap _,by simp⟩
theorem Qhl(fs:List Fd)(t:List UInt8)(t1 t2:List UInt8)(b1 b2:Bool)(h1:t1=(Ba [35] t false).getD t)(hb1:b1=(Ba [35] t false).isNone)(h2:t2=t1.dropWhile Bh)(hb2:b2=(b1 || !Gg 200 t1)):
  (match Ar 35 t with
   |none=>none
   |some r=>match Fq fs r with|some (f,q)=>some (Vl.mk 69 [] f.tag [],q)|none=>none)=if b2 || (Au fs (G0 t1)).isNone then none else some (.mk 69 [] (G0 t1) [],t2):=by
 rw[Ci]at h1 hb1
 simp only[Bool.false_eq_true,if_false]at h1 hb1
 cases hy:Ar 35 t with
 |none=>rw[hy]at hb1;simp at hb1;subst hb1 hb2;simp
 |some r=>
  rw[hy]at h1 hb1
  simp at h1 hb1
  subst h1 hb1 h2 hb2
  simp only[Qag]
  cases Gg 200 t1 with
  |false=>simp
  |true=>
   simp only[if_true,Bool.false_or,Bool.not_true]
   cases hf:Au fs (G0 t1)with
   |none=>simp
   |some f=>have:=(As hf).1;simp[this]
theorem Qfk(w0:World)(b N:Nat)(p:Value)(S:List Ty)(x:PT)(hx:Px w0 x)(h9:x.ty.sort=69)(t:List UInt8)(w:World)(hw:Below w0.heap.size w0 w)(hb:w0.heap.size<=b)(h:Gb w b p t false)(hl:t.length<=900)
  (q:Option (Vl × List UInt8)) (hq:q=Ju S (An S 1000 N) x.ty t):
  Calls prog 82 #[.pointer (some ⟨b,0,none⟩),.pointer (some ⟨x.blk,0,none⟩)] w (Km w b p t (N+1) q):=by
 have HQ:=Aa (hq.trans (by unfold Ju;rw[if_pos h9]))
 have HS:=Aa h
 have HW:=Aa hw
 have hb0:=h.1
 have hx0:=hx.1
 have x0:=(hw.cell (p:=⟨x.blk,0,none⟩) hx0).trans hx.2.2.1
 have hxw:x.blk<w.heap.size:=by have:=hw.size;omega
 have hxn:¬(x.blk=w.heap.size):=by have:=hw.size;omega
 have hxn2:¬(x.blk=w.heap.size+1):=by have:=hw.size;omega
 rw[h9]at x0
 have x0':w.cell? ⟨x.blk,0,none⟩=some (.int .u8 69):=x0
 clear x0
 have hm:=Eh 35 t false
 have Hwt:=Aa (fun W (h:Gb W b p t false)=>Db b p t [35] false W h (by omega))
 obtain⟨t1,ht1⟩:∃t1,t1=(Ba [35] t false).getD t:=⟨_,rfl⟩
 obtain⟨b1,hb1⟩:∃b1,b1=(Ba [35] t false).isNone:=⟨_,rfl⟩
 have HQ2:=Aa (HQ.o.trans (Qhl x.ty.fields t t1 (t1.dropWhile Bh) b1 (b1 || !Gg 200 t1) ht1 hb1 rfl rfl))
 rw[<-ht1]at hm
 rw[<-ht1,<-hb1]at Hwt
 have Hn:=Aa (fun W (h:Gb W b p t1 b1)=>Ph b 200 p t1 b1 W h (by omega) (by decide))
 have hnn:=Yq t1
 have hdr:=Zk Bh t1
 have Hf:=Aa (fun W (hW:Below w0.heap.size w0 W)=>Nl w0 x hx (G0 t1) W hW (by omega))
 have hdl:=Qe5 5 (G0 t1) (by have e:10 ^ (5+1)=1000000:=rfl;omega)
 generalize (b1 || !Gg 200 t1)=b2 at *
 generalize t1.dropWhile Bh=t2 at *
 generalize G0 t1=n at *
 clear ht1 hb1 h hw hq h9 HQ
 go_enter func82,ntmps82
 go_wp2_with fail
 have F1:=Aa ((Po.init HS.o (T:=40)).post ((Aq _ _).alloc (Ap _) (.cells #[.int .u8 69,.string ⟨#[]⟩,.int .i64 0,.slice none 0 0] 40)))
 have V1:=Aa (show Vb (w.heap.size+1) _ _ _ _ _ from by have:=Vb.new (w:=w.alloc (.cells #[.int .u8 0,.string ⟨#[]⟩,.int .i64 0,.slice none 0 0] 40)) (h0:=.int .u8 69) (h1:=.string ⟨#[]⟩) (h2:=.int .i64 0) (h3:=.slice none 0 0) (T:=40);simpa using this)
 refine(Hwt.o _ F1.o.1.1).mono ?_
 rintro e w2 ⟨rfl,hs2⟩
 have F2:=Aa (F1.o.step hb0 hs2)
 have V2:=Aa (V1.o.grown hs2.2 (by simp;omega))
 clear hs2 F1 V1
 go_wp2_with fail
 refine(Hn.o _ F2.o.1.1).mono ?_
 rintro e w3 ⟨rfl,hs3⟩
 have F3:=Aa (F2.o.step hb0 hs3)
 have V3:=Aa (V2.o.grown hs3.2 (by simp;omega))
 clear hs3 F2 V2
 have c2:=V3.o.c2
 have f2:=V3.o.bk.live 2
 have l2:=V3.o.lt
 go_wp2_with fail
 have F4:=Aa (F3.o.app hb0 (At w3 (w.heap.size+1) 2 (.int .i64 (n:Int))) (fun k e=>by injection e with e;omega))
 have V4:=Aa (V3.o.set2 (.int .i64 (n:Int)))
 refine(Hf.o _ (F4.o.1.env HW.o hb)).mono ?_
 rintro e w4 ⟨fp,rfl,hfp,rfl⟩
 cases hfo:Au x.ty.fields n with
 |some g=>
  rw[hfo]at hfp HQ2
  obtain⟨fb,fo,rfl,_,_⟩:=hfp
  have d0:=V4.o.c0
  have d1:=V4.o.c1
  have d2:=V4.o.c2
  have d3:=V4.o.c3
  clear hfo c2 f2 l2
  generalize w3.setCell ⟨w.heap.size+1,2,none⟩ (.int .i64 (n:Int))=w4 at *
  go_wp2_with ((with_reducible refine Ad (op:=⟨none,.store 40 _ _,_,_,_,none⟩) rfl 40 _ _ rfl w.heap.size 0 [.int .u8 69,.string ⟨#[]⟩,.int .i64 (n:Int),.slice none 0 0] ?_ ?_ ?_ ?_ ?_ ?_);rfl;rfl;(exact F4.o.2.1);kernel_rfl;(simp[Value.oneCell']);intro w9 HS9)
  have Z:=Po.fin (v:=.mk 69 [] n []) (sl:=.slice none 0 0) F4.o hb0 HS9.o (Dx.nil _ _)
  refine bodyPost_ret (v:=.agg (Gu (.mk 69 [] n []) (.slice none 0 0)).toArray) (Az results82 _ _ w.heap.size _ _ rfl Z.2.2 underlying40 rfl (by kernel_rfl)) rfl ⟨.mk 69 [] n [],_,t2,rfl,Z.1,?_,?_,Et (by omega) (by decide),by omega,by simp[Bc,Dz,Gs];omega⟩
  ·rw[HQ2.o];cases b2<;>exact Z.2.1
  rw[HQ2.o];cases b2<;>simp
 |none=>
  rw[hfo]at hfp HQ2
  have hfp':fp=.pointer none:=hfp
  subst hfp'
  have s2:=F4.o.1.1.2.2.2.2
  have sb:=F4.o.1.1.2.1.live 2
  have s0:=F4.o.1.1.1
  clear hfo c2 f2 l2
  generalize w3.setCell ⟨w.heap.size+1,2,none⟩ (.int .i64 (n:Int))=w4 at *
  have F5:=Aa (F4.o.step hb0 ⟨F4.o.1.1.setBad true,At _ b 2 (.bool true)⟩)
  have V5:=Aa (V4.o.grown (At w4 b 2 (.bool true)) (by simp;omega))
  have d0:=V5.o.c0
  have d1:=V5.o.c1
  have d2:=V5.o.c2
  have d3:=V5.o.c3
  go_wp2_with ((with_reducible refine Ad (op:=⟨none,.store 40 _ _,_,_,_,none⟩) rfl 40 _ _ rfl w.heap.size 0 [.int .u8 69,.string ⟨#[]⟩,.int .i64 (n:Int),.slice none 0 0] ?_ ?_ ?_ ?_ ?_ ?_);rfl;rfl;(exact F5.o.2.1);kernel_rfl;(simp[Value.oneCell']);intro w9 HS9)
  have Z:=Po.fin (v:=.mk 69 [] n []) (sl:=.slice none 0 0) F5.o hb0 HS9.o (Dx.nil _ _)
  refine bodyPost_ret (v:=.agg (Gu (.mk 69 [] n []) (.slice none 0 0)).toArray) (Az results82 _ _ w.heap.size _ _ rfl Z.2.2 underlying40 rfl (by kernel_rfl)) rfl ⟨.mk 69 [] n [],_,t2,rfl,Z.1,?_,?_,Et (by omega) (by decide),by omega,by simp[Bc,Dz,Gs];omega⟩
  ·rw[HQ2.o];simpa using Z.2.1
  rw[HQ2.o];simp
end
end Go.Proofs.YtkgkoicedddkmaaGreatDoor
