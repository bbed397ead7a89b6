/- Texts joined. Conditions: as each theorem names them. -/
import Derived.Test.YtmmhmlmfhpfgbaaGreatDoorF28
set_option maxRecDepth 100000
set_option maxHeartbeats 32000000
set_option linter.unusedVariables false
set_option linter.unusedSimpArgs false
namespace Go.Proofs.YtmmhmlmfhpfgbaaGreatDoor
open Go.RowKit Go.Proofs.Tryz
section
attribute [local go_sem] Qoe Qnf Qmu Qk2 ByteArray.mk_append_mk
theorem Qby(p:Value)(xs:List PT)(hok:∀y∈xs,Fi y.ty)(n:Nat)(k:Kd)(w:World)(hsc:Sd w p xs)(hk:Ck k)(hs:k.signs=[])(hb:k.base=[64])(x:PT)(hx:D8 xs k.name=some x)
  (hn:n<=9) (ih:x.ty.sort=85->∀f fs,x.ty.fields=f::fs->∀W,Sd W p xs->Calls prog 118 #[p,D9 f.kind] W (Fz (Do (Ag xs) n f.kind) W)):
  Calls prog 118 #[p,D9 k] w (Fz (Do (Ag xs) (n+1) k) w):=by
 have Hlen:=Aa (Sz (Ag xs) (fun t ht=>by obtain⟨y,hy,rfl⟩:=ax.1 ht;exact hok y hy))
 have HF:=Aa (show Do (Ag xs) (n+1) k=if x.ty.sort=82 then[123,125]else match x.ty.fields with|[]=>[]|f::_=>if x.ty.sort=69 then 35::Ba f.tag else 60::(Ba f.tag++61::(Do (Ag xs) n f.kind++[62]))from by
  rw[Do,if_neg ey,if_neg ey,if_neg bS,if_neg bS,if_neg bS,Gg,hx];rfl)
 have hxm:=(D5 hx).1;have Hto:=Aa (hok _ hxm);have hnl:=Fv hk;have Hsc:=Aa hsc;obtain⟨pb,A,cc,mb,rfl,q0,q1,q2,q3,q4,htys,_⟩:=hsc;obtain⟨z0,_,z1,z2,z3,z4,A8,c,hz8,hl8',hrow8⟩:=htys x hxm;rw[hz8]at z3;have Hrow:=Aa hrow8;have Ih:=Aa ih
 have Hlk:=Aa (fun W (h:Below w w W)=>show (Instr.lookup 133 (.map (some mb)) k.name false).run prog W=.ok x.blk W from by
  have:=E8 (Dp.below q4 h) k.name aH;rw[hx]at this;exact this)
 have hmb:=q4.lt;unfold D9;rw[hs,hb];clear hk hs hb hx q1 q3 q4 htys hrow8 ih hok hz8 z2 z4 hxm;go_enter func118,ntmps118;go_wp2_with fail;refine(Ki _ _ _).mono ?_;rintro e w1 ⟨rfl,hb1⟩;obtain⟨hc1,_,hzz⟩:=Cj hb1;have y1:w1.cell? (w,1)=some (.string ⟨#[64]⟩):=(hc1 w 1 aK).trans aK;have y2:w1.cell? (w,2)=k.name:=(hc1 w 2 aK).trans aK;have Hb1:=@Aa (Below w w w1) (((Ao w.heap.size w).alloc (An _) _).trans (hb1.mono aK));have hz1:w.heap.size<w1.heap.size:=eG;have m1:w1.cell? (pb,1)=some (.map (some mb)):=(Hb1.o.cell (p:=⟨pb,1,none⟩) q0).trans q2;have u0:w1.cell? (x.blk,0)=some (.int .u8 (x.ty.sort.toNat:Int)):=(Hb1.o.cell (p:=⟨x.blk,0,none⟩) z0).trans z1;have u2:w1.cell? (x.blk,2)=some (.slice A8 x.ty.fields.length c):=(Hb1.o.cell (p:=⟨x.blk,2,none⟩) z0).trans z3;have Hlook:=Aa (fun q=>Hlk.o (w1.drewN q) (Hb1.o.trans ((below_drewN (Ao _ _) q).mono Hb1.o.size)));clear hc1 hzz hb1 q2 z1 z3;go_wp2_with fail;refine Jd [20,21,22,23,24,25,26,5]
  (fun i v W=>match i with|0=>v=pb|1=>v=pb|2=>v=(pb,1)|3=>v=.map (some mb)|4=>v=(w,2)|5=>v=k.name|6=>v=x.blk|7=>v=x.blk|_=>True)
  (fun L U W=>∃q,W=w1.drewN q) (⟨1,rfl⟩) ?_ ?_
 ·repeat (first|exact Ak.nil|(refine Ak.cons ?_ ?_;rotate_left))
  all_goals
   rintro L U W hL hpre HR Hdep K hK;obtain⟨q,rfl⟩:=HR.o;have hlq:=Hlook.o q;first|(simp[Region.binds]at hpre;done)|simp[Region.binds]at hpre|clear hpre
  iterate 8
   ·exact hD
 rintro L U W hL hφ hR;have e7:U 7=x.blk:=hφ 7 aJ;simp only[e7];clear hφ;obtain⟨q,rfl⟩:=hR;have Hbq:=Aa (Hb1.o.trans ((below_drewN (Ao w1.heap.size w1) q).mono Hb1.o.size));clear hL y1 y2 m1;by_cases h82:x.ty.sort=82
 ·have t82:((x.ty.sort.toNat:Int) == 82)=true:=Bj (d:=82) h82;have HF2:=Aa (HF.o.trans (if_pos h82));clear h82 HF;go_wp2_with fail;go_ret;exact⟨by rw[HF2.o];rfl,Hbq.o⟩
 have t82:((x.ty.sort.toNat:Int) == 82)=false:=Ap (d:=82) h82;have HF2:=Aa (HF.o.trans (if_neg h82));have hne:x.ty.fields≠[]:=fun h=>h82 (Hto.o.2.2.2.2 h);obtain⟨f,fs,hfs⟩:∃f fs,x.ty.fields=f::fs:=by
  cases h:x.ty.fields with
  |nil=>exact absurd h hne
  |cons f fs=>exact⟨f,fs,rfl⟩
 have hf0:0<x.ty.fields.length:=cV;have hge:x.ty.fields[0]=f:=by simp[hfs]
 have hft:=Hto.o.2.2.1.1 f cV;have htag:f.tag<=200:=hft.2.1;have hdl:=Da 2 f.tag bU;have Hd:=Aa (fun W=>Qj f.tag f.tag W (An _) aH);have hi0:(0:Int)<(x.ty.fields.length:Int):=aH;have HF3:=@Aa (Do (Ag xs) (n+1) k=if x.ty.sort=69 then 35::Ba f.tag else 60::(Ba f.tag++61::(Do (Ag xs) n f.kind++[62]))) (by rw[HF2.o,hfs]);have Hfs:=Aa hfs;obtain⟨b,off,rfl,hbl,hrg⟩:=Q5.range Hrow.o hf0;rw[hge]at hrg;have hrq:=Ah hrg hbl Hbq.o;simp only[Nat.zero_mul,Nat.add_zero]at hrq;have g0:(w1.drewN q).cell? ⟨b,off,none⟩=(f.tag:Int):=by simpa using Ab hrq 0 rfl
 have G2:=Aa (Ab hrq 2 rfl);have G3:=Aa (Ab hrq 3 rfl);have G4:=Aa (Ab hrq 4 rfl);have H82:=Aa h82;clear HF2 HF h82 hne hfs hge hft hrg hrq;by_cases h69:x.ty.sort=69
 ·have t69:((x.ty.sort.toNat:Int) == 69)=true:=Bj (d:=69) h69;have HF4:=Aa (HF3.o.trans (if_pos h69));clear h69 HF3;go_wp2_with fail;refine(Hd.o _).mono ?_;rintro e w2 ⟨rfl,hb2⟩;go_wp2_with fail;go_ret;exact⟨by rw[HF4.o];simp,Hbq.o.trans (hb2.mono Hbq.o.size)⟩
 have t69:((x.ty.sort.toNat:Int) == 69)=false:=Ap (d:=69) h69;have HF4:=Aa (HF3.o.trans (if_neg h69));have h85:x.ty.sort=85:=by
  rcases Hto.o.1 with h|h|h
  ·exact absurd h H82.o
  ·exact h
  exact absurd h h69
 have Ih2:=Aa (Ih.o h85 f fs Hfs.o);unfold D9 at Ih2;have hsl:=Hlen.o n f.kind;generalize Do (Ag xs) n f.kind=sl at *;clear h69 HF3 h85 Ih;go_wp2_with fail;obtain⟨W0,hW0⟩:∃W0,W0=w1.drewN q:=⟨_,rfl⟩
 rw[<-hW0]at Hbq g0 G2 G3 G4 ⊢;have Y2:=@Aa (W0.cell? (x.blk,2)=some (.slice (some ⟨b,off,none⟩) x.ty.fields.length c)) (by rw[hW0];exact u2);have Y0:=Aa g0;have Y3:=@Aa (W0.cell? ⟨b,off+2,none⟩=some (.string ⟨f.kind.signs.toArray⟩)) G2.o;have Y4:=@Aa (W0.cell? ⟨b,off+3,none⟩=some (.string ⟨f.kind.base.toArray⟩)) G3.o;have Y5:=@Aa (W0.cell? ⟨b,off+4,none⟩=some (.string ⟨f.kind.name.toArray⟩)) G4.o;have Hx5:=@Aa (x.blk<W0.heap.size) (ac z0 Hbq.o.size);have Hb5:=@Aa (b<W0.heap.size) (ac hbl Hbq.o.size);have Hsc0:=Aa (Hsc.o.below Hbq.o);clear hW0 g0 u0 u2;refine Jd [44,45,46,47,48,49,50,51,52,53,54,55,56,57,58,59,60,61,62,63,64,4]
  (fun i v W=>match i with|0=>v=x.blk|1=>v=x.blk|2=>v=(x.blk,2)|3=>v=.slice (some ⟨b,off,none⟩) x.ty.fields.length c|4=>v=.pointer (some ⟨b,off,none⟩)|5=>v=.pointer (some ⟨b,off,none⟩)|6=>v=(f.tag:Int)|7=>v=.string ⟨(Ba f.tag).toArray⟩|8=>v=.string ⟨(60::Ba f.tag).toArray⟩|9=>v=.string ⟨(60::(Ba f.tag++[61])).toArray⟩|10=>v=pb|11=>v=x.blk|12=>v=x.blk|13=>v=(x.blk,2)|14=>v=.slice (some ⟨b,off,none⟩) x.ty.fields.length c|15=>v=.pointer (some ⟨b,off,none⟩)|16=>v=.pointer (some ⟨b,off+2,none⟩)|17=>v=.agg #[.string ⟨f.kind.signs.toArray⟩,.string ⟨f.kind.base.toArray⟩,.string ⟨f.kind.name.toArray⟩]|18=>v=.string ⟨(sl).toArray⟩|19=>v=.string ⟨(60::(Ba f.tag++61::sl)).toArray⟩|20=>v=.string ⟨(60::(Ba f.tag++61::(sl++[62]))).toArray⟩|21=>v=.string ⟨(60::(Ba f.tag++61::(sl++[62]))).toArray⟩|_=>True)
  (fun L U W=>Below W0 W0 W) ((Ao _ _).drew) ?_ ?_
 ·repeat (first|exact Ak.nil|(refine Ak.cons ?_ ?_;rotate_left))
  all_goals
   rintro L U W hL hpre HR Hdep K hK;have hB:=HR.o;have c2:=(hB.cell (p:=⟨x.blk,2,none⟩) Hx5.o).trans Y2.o;have c0:=(hB.cell (p:=⟨b,off,none⟩) Hb5.o).trans Y0.o;have c3:=(hB.cell (p:=⟨b,off+2,none⟩) Hb5.o).trans Y3.o;have c4:=(hB.cell (p:=⟨b,off+3,none⟩) Hb5.o).trans Y4.o;have c5:=(hB.cell (p:=⟨b,off+4,none⟩) Hb5.o).trans Y5.o;have c4':W.cell? ⟨b,off+2+1,none⟩=_:=c4;have c5':W.cell? ⟨b,off+2+1+1,none⟩=_:=c5;have c5'':W.cell? ⟨b,off+2+2,none⟩=_:=c5;first|(simp[Region.binds]at hpre;done)|simp[Region.binds]at hpre|clear hpre
  iterate 7
   ·exact hD
  ·exact je
  ·exact hY
  ·exact hY
  iterate 8
   ·exact hD
  ·exact j8
  ·exact hY
  ·exact hY
  ·exact hD
 rintro L U W hL hφ hR;have e21:U 21=.string ⟨(60::(Ba f.tag++61::(sl++[62]))).toArray⟩:=hφ 21 aJ;simp only[e21];clear hφ;have Hb9:=Aa (Hbq.o.trans (hR.mono Hbq.o.size));clear hR;go_wp2_with fail;go_ret;exact⟨by rw[HF4.o];rfl,Hb9.o⟩
theorem Tg(p:Value)(S:List Ty)(n:Nat)(k:Kd)(w:World)(hk:Ck k)(h:¬(k.signs=[]/\k.base=[64])):
  Calls prog 118 #[p,D9 k] w (Fz (Do S (n+1) k) w):=by
 unfold D9;cases hs:k.signs with
 |cons c t=>
  have hc:=Sj hk hs;have hl:=hk.2.2;unfold Ax at hl;rw[hs]at hl;rw[Qz _ _ k c t hs hc];exact Qbl p c t _ _ w hc (by simp at hl;omega)
 |nil=>
  have hb:k.base≠[64]:=fun hb=>h ⟨hs,hb⟩;rw[No _ _ k hs (N3 hk hs hb).2];exact Z9 p k.base _ w (N3 hk hs hb).2
theorem Qdi(p:Value)(xs:List PT)(hok:∀x∈xs,Fi x.ty)(hS:H8 (Ag xs)):∀(n:Nat),n<=9->∀(k:Kd) (w:World),Sd w p xs->Ck k->B6 (Ag xs) k->Tu (Ag xs) n k ->
  Calls prog 118 #[p,D9 k] w (Fz (Do (Ag xs) (n+1) k) w):=by
 intro n;induction n with
 |zero=>
  intro _ k w hsc hk hr he;refine Tg p _ 0 k w hk (fun h=>?_);obtain⟨t,_,h2⟩:=he h.1 h.2;exact absurd h2 (by simp[Ca])
 |succ n ih=>
  intro hn k w hsc hk hr he;by_cases hsb:k.signs=[]/\k.base=[64]
  ·obtain⟨hs,hb⟩:=hsb;have h1:=hr hb;rw[Gg]at h1;cases hx:D8 xs k.name with
   |none=>rw[hx]at h1;cases h1
   |some x=>
    have hft:Bk (Ag xs) k.name=some x.ty:=(D5 hx).2.2;have hto:Fi x.ty:=hok _ (D5 hx).1;refine Qby p xs hok (n+1) k w hsc hk hs hb x hx hn (fun h85 f fs hfs W hW=>?_);have hrf:B6 (Ag xs) f.kind:=hS x.ty (Cf hft).1 dX f cV;exact kG
  exact Tg p _ (n+1) k w hk hsb
theorem Qdj(p:Value)(xs:List PT)(h:G7 (Ag xs))(k:Kd)(w:World)(hsc:Sd w p xs)(hk:Ck k)(hr:B6 (Ag xs) k):
  Calls prog 118 #[p,D9 k] w (Fz (Vp (Ag xs) k) w):=
 Qdi p xs (fun x hx=>h.1.1 x.ty (ap hx)) h.2.1 9 (An _) k w hsc hk hr (Tr h hr)
theorem Rj(p:Value)(xs:List PT)(h:G7 (Ag xs))(f:Fd)(b o:Nat)(w:World)(hsc:Sd w p xs)(hf:w.rangeAt b o (Rt f))(hk:Ck f.kind)(hr:B6 (Ag xs) f.kind)(hl:f.given.length<=1000):
  Calls prog 59 #[p,.pointer (some ⟨b,o,none⟩)] w (Fz (G9 (Ag xs) f) w):=by
 have HF:=@Aa (G9 (Ag xs) f=if f.given=[]then Vp (Ag xs) f.kind else f.given) rfl;have Hs:=Aa (fun W (h1:Sd W p xs)=>Qdj p xs h f.kind W h1 hk hr);have Hsc:=Aa hsc;unfold D9 at Hs;have c2:w.cell? ⟨b,o+2,none⟩=f.kind.signs:=Ab hf 2 rfl;have c3:w.cell? ⟨b,o+3,none⟩=f.kind.base:=Ab hf 3 rfl;have c4:w.cell? ⟨b,o+4,none⟩=f.kind.name:=Ab hf 4 rfl;have c5:w.cell? ⟨b,o+5,none⟩=f.given:=Ab hf 5 rfl;have c3':w.cell? ⟨b,o+2+1,none⟩=f.kind.base:=c3;have c4':w.cell? ⟨b,o+2+1+1,none⟩=f.kind.name:=c4;have c4'':w.cell? ⟨b,o+2+2,none⟩=f.kind.name:=c4;clear h hk hr hsc hf;by_cases hg:f.given=[]
 ·have HF2:=Aa (HF.o.trans (if_pos hg));rw[hg]at c5;clear hg HF;go_enter func59,ntmps59;go_wp2_with fail;refine(Hs.o _ Hsc.o).mono ?_;rintro e w1 ⟨rfl,hb1⟩;go_wp2_with fail;go_ret;exact⟨by rw[HF2.o];rfl,hb1⟩
 have HF2:=Aa (HF.o.trans (if_neg hg));have t1:f.given.isEmpty=false:=by simpa using hg
 have t2:(!f.given.isEmpty)=true:=by simp[t1]
 clear hg HF;go_enter func59,ntmps59;go_wp2_with fail;go_ret;exact⟨by rw[HF2.o];rfl,Ao _ _⟩
def Rh(w:World)(b:Nat)(p:Value)(R:Nat)(t:List UInt8)(bad:Bool)(W:World):Prop:=Dz w b p t bad W/\W.there R 0 4/\w.heap.size<=R/\R<W.heap.size
theorem Rh.post{w W W':World}{b R:Nat}{p:Value}{t:List UInt8}{bad:Bool}(h:Rh w b p R t bad W)(hb:Below W W W'):Rh w b p R t bad W':=
 ⟨h.1.post hb,Aj h.2.1 h.2.2.2 hb,h.2.2.1,ac h.2.2.2 hb.size⟩
theorem Rh.step{w W W':World}{b R:Nat}{p:Value}{t t':List UInt8}{bad bad':Bool}(h:Rh w b p R t bad W)(hb:b<w.heap.size)(hs:Dz W b p t' bad' W'):Rh w b p R t' bad' W':=
 ⟨h.1.trans hs,Eu h.2.1 hs.2 h.2.2.2 (by have:=h.2.2.1;simp;omega),h.2.2.1,ac h.2.2.2 hs.2.size⟩
theorem Dz.app{w W W':World}{b:Nat}{p:Value}{t:List UInt8}{bad:Bool}{row:Option Nat}(h:Dz w b p t bad W)(hb:b<w.heap.size)(hg:W.grownBy W' row)(hr:∀k,row=some k->w.heap.size<=k):Dz w b p t bad W':=by
 have hn:∀c,c<w.heap.size->some c≠row:=fun c hc e=>by have:=hr c e.symm;omega
 obtain⟨⟨h0,h1,h2,h3,h4⟩,hg0⟩:=h;exact⟨⟨ac h0 hg.size,h1.grown h0 hg (hn b hb),hg.cell h2 (hn b hb),hg.cell h3 (hn b hb),hg.cell h4 (hn b hb)⟩,⟨hg.os.trans hg0.os,hg.tape.trans hg0.tape,hg.output.trans hg0.output,ad hg0.size hg.size,fun k hk hne=>(hg.block k (ac hk hg0.size) (hn k hk)).trans (hg0.block k hk hne)⟩⟩
theorem Rh.app{w W W':World}{b R:Nat}{p:Value}{t:List UInt8}{bad:Bool}{row:Option Nat}(h:Rh w b p R t bad W)(hb:b<w.heap.size)(hg:W.grownBy W' row)(hr:∀k,row=some k->R<k):Rh w b p R t bad W':=
 ⟨h.1.app hb hg fun k e=>by have:=hr k e;have:=h.2.2.1;omega,Eu h.2.1 hg h.2.2.2 (fun e=>by have:=hr R e.symm;omega),h.2.2.1,ac h.2.2.2 hg.size⟩
theorem Rh.fin{w W w9:World}{b R:Nat}{p:Value}{t:List UInt8}{bad:Bool}{v:Vl}{sl:Value}(F:Rh w b p R t bad W)(hb:b<w.heap.size)(HS:w9=W.setCells R 0 (Gl v sl))(hv:Ea (fun c=>R<c) W sl v.kids):
  Ea (fun c=>w.heap.size<=c) w9 sl v.kids/\Dz w b p t bad w9/\w9.rangeAt R 0 (Gl v sl):=by
 subst HS;have:=F.2.2.1;exact⟨(hv.set (B:=R) aH _).mono fun c hc _=>by omega,F.1.set aH aH _,aa _ _ _ _ F.2.1⟩
def Qm0(w0 w:World)(b:Nat)(p:Value)(t:List UInt8)(N:Nat)(fs:List Fd)(r:Option ((Fd × Vl) × List UInt8))(e:Ending)(w':World):Prop:=
 ∃(v:Vl) (sl fp:Value) (t':List UInt8),e=.returned (.tuple #[Ec v sl,fp])/\Ea (fun c=>w.heap.size<=c) w' sl v.kids/\Dz w b p t' r.isNone w'/\Bd v/\t'.length<=t.length/\(Az v).length+t'.length<=t.length+8*N /\
  ((fp=.pointer none/\r=none)\/∃g x,J7 w0.heap.size w' fp (some g)/\v=Dk (g,x)/\Au fs g.tag=some g/\Bd x/\∀y,r=some y->y=((g,x),t'))
theorem J7.via{B:Nat}{w0 W W':World}{v:Value}{o:Option Fd}(h:J7 B W v o)(h1:Below B w0 W)(h2:Below B w0 W'):J7 B W' v o:=by
 cases o with
 |none=>exact h
 |some f=>
  obtain⟨b,o,e,hb,hr⟩:=h;exact⟨b,o,e,hb,fun j u hu=>(h2.cell (p:=⟨b,o+j,none⟩) hb).trans ((h1.cell (p:=⟨b,o+j,none⟩) hb).symm.trans (hr j u hu))⟩
theorem Qer(fs:List Fd)(t:List UInt8):G0 fs t=if Je 200 t then(Au fs (J0 t)).map (fun f=>(f,t.dropWhile Bl))else none:=by
 unfold G0;rw[Qdh];unfold Je J0;cases h:Cx (t.takeWhile Bl)with
 |none=>simp
 |some n=>
  have:=(Cl.1 h).1;simp only[decide_eq_true_eq,this,if_true,Option.getD_some];by_cases h2:n<=200
  ·rw[if_pos h2,if_pos h2];cases Au fs n<;>rfl
  rw[if_neg h2,if_neg h2]
theorem Qhl(K:Kd->List UInt8->Option (Vl × List UInt8))(fs:List Fd)(t:List UInt8):Dj K fs t=match Au fs (J0 t)with
  |none=>none
  |some f=>match Bi [61] (t.dropWhile Bl) (!Je 200 t)with
   |none=>none
   |some q=>match K f.kind q with|some (v,z)=>some ((f,v),z)|none=>none:=by
 unfold Dj;rw[Qer];simp only[Cq];cases Je 200 t<;>cases Au fs (J0 t)<;>simp
 rfl
theorem Qmc(t:List UInt8)(h:Je 200 t=true):(Ba (J0 t)).length+(t.dropWhile Bl).length=t.length:=by
 unfold Je at h;unfold J0;cases hd:Cx (t.takeWhile Bl)with
 |none=>rw[hd]at h;cases h
 |some n=>
  have e:=(Cl.1 hd).2;simp only[Option.getD_some];rw[<-e,<-ah,List.takeWhile_append_dropWhile]
theorem Qc6(w0:World)(b N:Nat)(p:Value)(S:List Ty)(x:PT)(hx:P8 w0 x)(t:List UInt8)(w:World)(hw:Below w0 w0 w)(hb:w0.heap.size<=b)(bad:Bool)(h:H6 w b p t bad)(hl:t.length<=900)(hN:bad=false->t.length<=N)(hN2:N<=2000)
  (htg:∀f∈x.ty.fields,f.tag<=200) (H:∀f∈x.ty.fields,IvC w0 b p S N f.kind) (q:Option ((Fd × Vl) × List UInt8)) (hq:q=if bad then none else Dj (Ar S 1000 N) x.ty.fields t):
  Calls prog 198 #[b,x.blk] w (Qm0 w0 w b p t N x.ty.fields q):=by
 have HQ:=Aa (hq.trans (by rw[Qhl]));have Hnl:=Aa (Qmc t);have HS:=Aa h;have HW:=Aa hw;have hb0:=h.1;have hbn:¬(b=w.heap.size):=aH;have hnn:=Qbp t;have hdr:=Qbu Bl t;have Hn:=Aa (fun W (h:H6 W b p t bad)=>Qp b 200 p t bad W h aH aJ);have Hf:=Aa (fun W (hW:Below w0 w0 W)=>Ke w0 x hx (J0 t) W hW aH);have hxb:x.blk<w0.heap.size:=hx.1;clear h hw hq;obtain⟨b1,hb1⟩:∃b1,b1=(bad || !Je 200 t):=⟨_,rfl⟩
 have Hb1:=Aa hb1;rw[<-hb1]at Hn;generalize t.dropWhile Bl=t1 at *;have hm:=Fe 61 t1 b1;have Hwt:=Aa (fun W (h:H6 W b p t1 b1)=>Du b p t1 [61] b1 W h aH);have Hlt0:=Aa (fun r (h:Bi [61] t1 b1=some r)=>Ks h);clear hb1;cases hfo:Au x.ty.fields (J0 t)with
 |none=>
  rw[hfo]at Hf HQ;have hq0:=@Aa (q=none) (by have:=HQ.o;cases bad<;>simpa using this);generalize J0 t=n at *;generalize (Bi [61] t1 b1).getD t1=t2 at *;generalize (Bi [61] t1 b1).isNone=b2 at *;clear hfo HQ Hnl;go_enter func198,ntmps198;go_wp2_with fail;have F0:=@Aa (Rh w b p w.heap.size t bad (w.alloc (.cells #[.int .u8 0,a6,.int .i64 0,.slice none 0 0] 68))) ⟨⟨HS.o.grow ((Ao _ _).alloc (An _) _),Ci ((Ao _ _).alloc (An _) _) _⟩,Bz w [.int .u8 0,a6,.int .i64 0,.slice none 0 0] _,An _,by simp⟩;refine(Hn.o _ F0.o.1.1).mono ?_;rintro e w2 ⟨rfl,hs2⟩;have F2:=Aa (F0.o.step hb0 hs2);clear hs2;go_wp2_with fail;refine(Hf.o _ (F2.o.1.env HW.o hb)).mono ?_;rintro e w3 ⟨fp,rfl,hfp,rfl⟩;have hfp':fp=.pointer none:=hfp;subst hfp';go_wp2_with fail;refine(Hwt.o _ F2.o.1.1).mono ?_;rintro e w4 ⟨rfl,hs4⟩;have F4:=Aa (F2.o.step hb0 hs4);clear hs4;have sb:=F4.o.1.1.2.1.live 2;have s0:=F4.o.1.1.1;have s2:=F4.o.1.1.2.2.2.2;have F5:=Aa (F4.o.step hb0 ⟨F4.o.1.1.setBad true,Am _ b 2 (.bool true)⟩);go_wp2_with ((with_reducible refine Af (op:=⟨none,.store 68 _ _,_,_,_,none⟩) rfl 68 _ _ rfl w 0 [.int .u8 0,a6,.int .i64 0,.slice none 0 0] ?_ ?_ ?_ ?_ ?_ ?_);rfl;rfl;(exact F5.o.2.1);kernel_rfl;(simp[Value.oneCell']);intro w9 HS9)
  have Z:=Rh.fin (v:=Et) (sl:=.slice none 0 0) F5.o hb0 HS9.o (Ea.nil _ _);refine aF (v:=.tuple #[.agg (Gl Et (.slice none 0 0)).toArray,.pointer none]) (As results198 _ _ w.heap.size _ _ _ rfl rfl Z.2.2 underlying68 rfl aN) rfl ?_;exact⟨Et,.slice none 0 0,.pointer none,t2,rfl,Z.1,by rw[hq0.o];exact Z.2.1,Fo aJ aJ,by omega,by simp[Et,Az,D3,H4];omega,.inl ⟨rfl,hq0.o⟩⟩
 |some g=>
  obtain⟨hgt,hgm⟩:=At hfo;have hg2:=htg g hgm;have Hfg:=Aa (show Au x.ty.fields g.tag=some g by rw[hgt];exact hfo);rw[hfo]at Hf HQ;simp only at HQ;have HH:=Aa (H g hgm);cases hc:Bi [61] t1 b1 with
  |none=>
   have hq0:=Aa (show q=none from by
    rw[HQ.o];cases bad with
    |true=>rfl
    |false=>rw[if_neg aJ];rw[show Bi [61] t1 (!Je 200 t)=none by have:=Hb1.o;rw[Bool.false_or]at this;rw[<-this];exact hc])
   rw[hc]at Hwt;simp only[Option.isNone_none,Option.getD_none]at Hwt;generalize J0 t=n at *;clear hfo HQ Hnl hc hm;subst hgt;obtain⟨b2,hb2⟩:∃b2,b2=true:=⟨_,rfl⟩
   rw[<-hb2]at Hwt;go_enter func198,ntmps198;go_wp2_with fail;have F0:=@Aa (Rh w b p w.heap.size t bad (w.alloc (.cells #[.int .u8 0,a6,.int .i64 0,.slice none 0 0] 68))) ⟨⟨HS.o.grow ((Ao _ _).alloc (An _) _),Ci ((Ao _ _).alloc (An _) _) _⟩,Bz w [.int .u8 0,a6,.int .i64 0,.slice none 0 0] _,An _,by simp⟩;refine(Hn.o _ F0.o.1.1).mono ?_;rintro e w2 ⟨rfl,hs2⟩;have F2:=Aa (F0.o.step hb0 hs2);clear hs2;go_wp2_with fail;refine(Hf.o _ (F2.o.1.env HW.o hb)).mono ?_;rintro e w3 ⟨fp,rfl,hfp,rfl⟩;obtain⟨fb,fo,rfl,hfb,hfr⟩:=hfp;go_wp2_with fail;refine(Hwt.o _ F2.o.1.1).mono ?_;rintro e w4 ⟨rfl,hs4⟩;have F4:=Aa (F2.o.step hb0 hs4);clear hs4;have sb:=F4.o.1.1.2.1.live 2;have s0:=F4.o.1.1.1;have s2:=F4.o.1.1.2.2.2.2;have F5:=Aa (F4.o.step hb0 ⟨F4.o.1.1.setBad true,Am _ b 2 (.bool true)⟩);subst hb2;go_wp2_with ((with_reducible refine Af (op:=⟨none,.store 68 _ _,_,_,_,none⟩) rfl 68 _ _ rfl w 0 [.int .u8 0,a6,.int .i64 0,.slice none 0 0] ?_ ?_ ?_ ?_ ?_ ?_);rfl;rfl;(exact F5.o.2.1);kernel_rfl;(simp[Value.oneCell']);intro w9 HS9)
   have Z:=Rh.fin (v:=Et) (sl:=.slice none 0 0) F5.o hb0 HS9.o (Ea.nil _ _);refine aF (v:=.tuple #[.agg (Gl Et (.slice none 0 0)).toArray,.pointer none]) (As results198 _ _ w.heap.size _ _ _ rfl rfl Z.2.2 underlying68 rfl aN) rfl ?_;exact⟨Et,.slice none 0 0,.pointer none,t1,rfl,Z.1,by rw[hq0.o];exact Z.2.1,Fo aJ aJ,by omega,by simp[Et,Az,D3,H4];omega,.inl ⟨rfl,hq0.o⟩⟩
  |some t2=>
   have hlt:=Hlt0.o t2 hc;have hbb:bad=false/\b1=false/\Je 200 t=true:=by
    have h1:b1=false:=by
     cases b1 with
     |false=>rfl
     |true=>rw[Cq]at hc;simp at hc
    have h2:=Hb1.o;rw[h1]at h2;cases bad<;>cases hnb:Je 200 t<;>simp[hnb]at h2 ⊢
    exact h1
   obtain⟨rfl,rfl,hnb⟩:=hbb;have hnl:=Hnl.o hnb;rw[hgt.symm]at hnl
   have hq0:=Aa (show q=(match Ar S 1000 N g.kind t2 with|some (v,z)=>some ((g,v),z)|none=>none)from by
    rw[HQ.o,if_neg aJ,hnb];show (match Bi [61] t1 false with|none=>none|some q=>match Ar S 1000 N g.kind q with|some (v,z)=>some ((g,v),z)|none=>none)=_;rw[hc])
   rw[hc]at Hwt;simp only[Option.isNone_some,Option.getD_some]at Hwt;have h2N:t2.length<N:=by have:=hN rfl;omega
   generalize J0 t=n at *;clear hfo HQ Hnl hc hm Hb1 hnb Hlt0;subst hgt;go_enter func198,ntmps198;go_wp2_with fail;have F0:=@Aa (Rh w b p w.heap.size t false (w.alloc (.cells #[.int .u8 0,a6,.int .i64 0,.slice none 0 0] 68))) ⟨⟨HS.o.grow ((Ao _ _).alloc (An _) _),Ci ((Ao _ _).alloc (An _) _) _⟩,Bz w [.int .u8 0,a6,.int .i64 0,.slice none 0 0] _,An _,by simp⟩;refine(Hn.o _ F0.o.1.1).mono ?_;rintro e w2 ⟨rfl,hs2⟩;have F2:=Aa (F0.o.step hb0 hs2);clear hs2;go_wp2_with fail;refine(Hf.o _ (F2.o.1.env HW.o hb)).mono ?_;rintro e w3 ⟨fp,rfl,hfp,rfl⟩;obtain⟨fb,fo,rfl,hfb,hfr⟩:=hfp;go_wp2_with fail;refine(Hwt.o _ F2.o.1.1).mono ?_;rintro e w4 ⟨rfl,hs4⟩;have F4:=Aa (F2.o.step hb0 hs4);clear hs4;have HFR:=@Aa (J7 w0.heap.size w4 (.pointer (some ⟨fb,fo,none⟩)) (some g)) (J7.via ⟨fb,fo,rfl,hfb,hfr⟩ (F2.o.1.env HW.o hb) (F4.o.1.env HW.o hb));have G4:=@Aa (w4.rangeAt fb fo (Rt g)) (by obtain⟨a1,a2,a3,_,a5⟩:=HFR.o;injection a3 with a3;injection a3 with a3;injection a3 with a3 a4;subst a3 a4;exact a5);have s2:=F4.o.1.1.2.2.2.2;have g2:=Ab G4.o 2 rfl;have g3:=Ab G4.o 3 rfl;have g4:=Ab G4.o 4 rfl;have g3':w4.cell? ⟨fb,fo+2+1,none⟩=g.kind.base:=g3;have g4':w4.cell? ⟨fb,fo+2+1+1,none⟩=g.kind.name:=g4;have g4'':w4.cell? ⟨fb,fo+2+2,none⟩=g.kind.name:=g4;clear hfr;have HV:=Aa (fun W (h1:Below w0 w0 W) (h2:H6 W b p t2 false)=>HH.o t2 false W h1 h2 aH (fun _=>h2N));unfold D9 at HV;simp only[ao,if_false]at HV;go_wp2_with fail;refine(HV.o _ (F4.o.1.env HW.o hb) F4.o.1.1).mono ?_;rintro e w5 ⟨v,sl,t',rfl,hk5,hs5,hx5,hB5,hl5,hn5⟩;obtain⟨A7,c7,rfl⟩:=hk5.form;have F5:=Aa (F4.o.step hb0 hs5);have Hk5:=Aa hk5;have Hx5:=Aa hx5;have HB5:=Aa hB5;have hz4:=F4.o.2.2.2;clear hs5 hk5 hx5 hB5 g2 g3 g4 g3' g4' g4'' s2;unfold Ec;go_wp2_with fail;obtain⟨W6,hW6⟩:∃W6,W6=w5.alloc (.cells #[.int .u8 (v.what.toNat:Int),v.text,(v.tag:Int),.slice A7 v.kids.length c7] 68):=⟨_,rfl⟩
   rw[<-hW6];have hb6:Below w5 w5 W6:=ev;have F6:=Aa (F5.o.post hb6);have HP6:=Aa (HFR.o.via (F4.o.1.env HW.o hb) (F6.o.1.env HW.o hb));have X6:=@Aa (W6.rangeAt w5 0 [.int .u8 (v.what.toNat:Int),v.text,(v.tag:Int),.slice A7 v.kids.length c7]) (by rw[hW6];exact Bo w5 [.int .u8 (v.what.toNat:Int),v.text,(v.tag:Int),.slice A7 v.kids.length c7] _);have Hk6:=Aa (Hk5.o.after hb6);have hz6:w5.heap.size<W6.heap.size:=by rw[hW6];simp
   have HW6:=Aa (F6.o.1.env HW.o hb);have hz5:=F5.o.2.2.2;generalize w5.heap.size=B7 at *;clear hW6 hb6;have D0:=@Aa (W6.cell? ⟨fb,fo,none⟩=(g.tag:Int)) (by obtain⟨a1,a2,a3,_,a5⟩:=HP6.o;injection a3 with a3;injection a3 with a3;injection a3 with a3 a4;subst a3 a4;simpa using Ab a5 0 rfl);refine Bp [32,33,34,35,36,37,38,39,999,5] aN aN aN (fun u=>by dsimp only[Bt,Bq,List.set,am,Nat.reduceAdd])
    (fun ix u W=>match ix with|0=>u=.pointer (some ⟨fb,fo,none⟩)|1=>u=.pointer (some ⟨fb,fo,none⟩)|2=>u=.pointer (some ⟨fb,fo,none⟩)|3=>u=(g.tag:Int)|4=>u=.agg #[.int .u8 (v.what.toNat:Int),v.text,(v.tag:Int),.slice A7 v.kids.length c7]|5=>∃c,u=.slice (some ⟨c,0,none⟩) 1 1|6=>∃c,u=.agg #[.int .u8 61,a6,(g.tag:Int),.slice (some ⟨c,0,none⟩) 1 1]|7=>u=.pointer (some ⟨fb,fo,none⟩)|9=>u=.pointer (some ⟨fb,fo,none⟩)|_=>True)
    (fun L U W=>(L 8=false->Below W6 W6 W)/\(L 5=true->L 8=false->∃W7,W=W7.alloc (.cells (Ka (v,.slice A7 v.kids.length c7)).toArray 68)/\U 5=.slice (some ⟨W7.heap.size,0,none⟩) 1 1/\Below W6 W6 W7)/\(L 6=true->U 6=.agg #[.int .u8 61,a6,(g.tag:Int),U 5]) /\
  (L 8=true->∃W7,W=(W7.alloc (.cells (Ka (v,.slice A7 v.kids.length c7)).toArray 68)).setCells w 0 [.int .u8 61,a6,(g.tag:Int),.slice (some ⟨W7.heap.size,0,none⟩) 1 1]/\Below W6 W6 W7)) (fun _ _=>True) (fun _ _ _ _ _ h=>h) (⟨fun _=>(Ao _ _).drew,fun h=>Bool.noConfusion h,fun h=>Bool.noConfusion h,fun h=>Bool.noConfusion h⟩) ?_ ?_
   ·repeat (first|exact Ak.nil|(refine Ak.cons ?_ ?_;rotate_left))
    all_goals
     rintro L U W hL hpre hR hun hdep K hK;have HR:=Aa hR;obtain⟨R1,R2,R3,R4⟩:=HR.o;have Hdep:=Aa hdep;clear hun hdep hR;first|(simp[Region.binds]at hpre;done)|simp[Region.binds]at hpre|clear hpre
    iterate 3
     ·exact hD
    ·have h6:L 6=false:=Bb Hdep.o 6 3 rfl hL;have h8:L 8=false:=Bb Hdep.o 8 6 rfl h6;have m0:=((R1 h8).cell (p:=⟨fb,fo,none⟩) (by have:=HW6.o.size;show fb<_;omega)).trans D0.o;exact kL
    ·have h5:L 5=false:=Bb Hdep.o 5 4 rfl hL;have h6:L 6=false:=Bb Hdep.o 6 5 rfl h5;have h8:L 8=false:=Bb Hdep.o 8 6 rfl h6;have m0:=((R1 h8).cell (p:=⟨B7,0,none⟩) hz6).trans (X6.o 0 _ rfl);have m1:=((R1 h8).cell (p:=⟨B7,1,none⟩) hz6).trans (X6.o 1 _ rfl);have m2:=((R1 h8).cell (p:=⟨B7,2,none⟩) hz6).trans (X6.o 2 _ rfl);have m3:=((R1 h8).cell (p:=⟨B7,3,none⟩) hz6).trans (X6.o 3 _ rfl);exact kL
    ·have h6:L 6=false:=Bb Hdep.o 6 5 rfl hL;have h8:L 8=false:=Bb Hdep.o 8 6 rfl h6;have hba:Below W W (W.alloc (.cells (Ka (v,.slice A7 v.kids.length c7)).toArray 68)):=(Ao _ _).alloc (An _) _;have u4:=hpre.2;go_simp;exact hK (.slice (W,0) 1 1) _ _ ⟨W.heap.size,rfl⟩ Ac ⟨fun _=>(R1 h8).trans (hba.mono (R1 h8).size),fun _ _=>⟨W,rfl,rfl,R1 h8⟩,fun h=>absurd (h6.symm.trans aR) aJ,fun h=>absurd (h8.symm.trans aR) aJ⟩ aI
    ·obtain⟨c,u5⟩:=hpre.2.2;have u3:=hpre.1.2;go_simp;exact hK (.agg #[.int .u8 61,a6,(g.tag:Int),U 5]) _ _ ⟨c,by rw[u5]⟩ Ac ⟨R1,R2,fun _=>rfl,fun h=>R4 aR⟩ (by simp[Act.put,u3,u5])
    ·exact hD
    ·obtain⟨⟨l6,_⟩,_⟩:=hpre;have u6:=R3 l6;have l5:L 5=true:=by
      cases h5:L 5 with
      |true=>rfl
      |false=>exact absurd (l6.symm.trans (Bb Hdep.o 6 5 rfl h5)) aJ
     obtain⟨W7,rfl,u5,hb7⟩:=R2 l5 hL;rw[u5]at u6;rw[if_pos cr];refine wp_store_mid 68 _ _ rfl w 0 ([.int .u8 61,a6,(g.tag:Int),.slice (some ⟨W7.heap.size,0,none⟩) 1 1]:List Value).toArray rfl u6 ((F6.o.post hb7).post ((Ao _ _).alloc (An _) _)).2.1 aN bh ?_;exact hK undef _ _ Ac Ac ⟨fun h=>by simp at h,fun _ h=>by simp at h,fun _=>by show U 6=.agg #[.int .u8 61,a6,(g.tag:Int),U 5];rw[u5];exact u6,fun _=>⟨W7,rfl,hb7⟩⟩ rfl
    ·clear R1 R2 R3 R4;go_simp;exact hK (.pointer (some ⟨fb,fo,none⟩)) _ _ rfl Ac HR.o aI
   rintro L U W hL hφ hR;have hφ9:=hφ 9 aJ;clear hφ;have e9:U 9=.pointer (some ⟨fb,fo,none⟩):=hφ9;obtain⟨_,_,_,h4⟩:=hR;obtain⟨W7,rfl,hb7⟩:=h4 (hL 8 aJ);clear hL h4;simp only[e9];clear hφ9;go_wp2_with fail;have F7:=Aa (F6.o.post hb7);have Hk7:=Aa (Hk6.o.after hb7);have hz7:=F7.o.2.2.2;have Z:=Rh.fin (v:=Dk (g,v)) (sl:=.slice (some ⟨W7.heap.size,0,none⟩) 1 1) (F7.o.post ((Ao _ _).alloc (An _) (.cells (Ka (v,.slice A7 v.kids.length c7)).toArray 68))) hb0 rfl (Hk7.o.one (T:=68) (fun c hc _=>by omega) aH);have HPz:=HP6.o.via (F6.o.1.env HW.o hb) (Z.2.1.env HW.o hb);refine aF (v:=.tuple #[.agg (Gl (Dk (g,v)) (.slice (some ⟨W7.heap.size,0,none⟩) 1 1)).toArray,.pointer (some ⟨fb,fo,none⟩)]) (As results198 _ _ w.heap.size _ _ _ rfl rfl Z.2.2 underlying68 rfl aN) rfl ?_;have hx9:=Hx5.o;refine⟨Dk (g,v),_,_,t',rfl,Z.1,?_,.mk (show g.tag<=1000000000 by omega) eW aK (fun y hy=>by rw[aq]at hy;subst hy;exact HB5.o),by omega,by rw[Ja];simp only;omega,.inr ⟨g,v,HPz,rfl,Hfg.o,HB5.o,?_⟩⟩
   ·have e:q.isNone=(Ar S 1000 N g.kind t2).isNone:=by rw[hq0.o];cases Ar S 1000 N g.kind t2<;>rfl
    rw[e];exact Z.2.1
   intro y hy;rw[hq0.o]at hy;cases hr:Ar S 1000 N g.kind t2 with
   |none=>rw[hr]at hy;cases hy
   |some z=>
    obtain⟨z1,z2⟩:=z;rw[hr]at hy;simp only[aj]at hy;obtain⟨e1,e2⟩:=hx9 _ hr;simp only at e1 e2;rw[<-hy,e1,e2]
def Qb(ps:List (Fd × Vl)):Option (List (Fd × Vl) × List UInt8)->Option (List (Fd × Vl) × List UInt8)
 |some (us,z)=>some (ps++us,z)
 |none=>none
structure RI(S:List Ty)(K:Kd->List UInt8->Option (Vl × List UInt8))(fs:List Fd)(t1:List UInt8)(b1:Bool)(ps:List (Fd × Vl))(last:Nat)(tt:List UInt8):Prop where
 eq:b1=false->El S K fs 201 0 t1=Qb ps (El S K fs (201 - ps.length) last tt)
 len:Dh ((ps.map Dk).map Az)+tt.length<=t1.length
 bd:∀p∈ps,Bd (Dk p)
 lo:ps.length<=last
 hi:last<=200
def RE(S:List Ty)(K:Kd->List UInt8->Option (Vl × List UInt8))(fs:List Fd)(t1:List UInt8)(b1:Bool)(vs:List Vl)(tt:List UInt8)(bb:Bool)(N:Nat):Prop:=
 ∃ps:List (Fd × Vl),(if b1 then none else El S K fs 201 0 t1)=(if bb then none else match Av 125 tt with|some z=>some (ps,z)|none=>none)/\(bb=false->vs=ps.map Dk)/\Dh (vs.map Az)+tt.length<=t1.length+8*N+1/\(∀x∈vs,Bd x)/\vs.length<=201
section
variable {S:List Ty} {K:Kd->List UInt8->Option (Vl × List UInt8)} {fs:List Fd} {t1 tt t' t'':List UInt8} {b1:Bool} {ps:List (Fd × Vl)} {last N:Nat} {g:Fd} {x:Vl}
theorem RI.init:RI S K fs t1 b1 [] 0 t1:=⟨fun _=>by cases h:El S K fs 201 0 t1<;>simp[Qb,h],by simp[Dh],by simp,An _,by omega⟩
theorem RI.bad(h:RI S K fs t1 true ps last tt):RE S K fs t1 true (ps.map Dk) tt true N:=
 ⟨ps,by simp,fun h=>Bool.noConfusion h,by have:=h.len;omega,fun y hy=>by obtain⟨p,hp,rfl⟩:=ax.1 hy;exact h.bd p hp,by have:=h.lo;have:=h.hi;simp;omega⟩
theorem RI.fuel(h:RI S K fs t1 b1 ps last tt):∃m,201 - ps.length=m+1:=⟨200 - ps.length,by have:=h.lo;have:=h.hi;omega⟩
theorem RI.step(h:RI S K fs t1 false ps last tt)(hK:Dj K fs tt=some ((g,x),t'))(hl:last<g.tag)(hne:Az x≠G9 S g)(hlen:tt.length=(Az (Dk (g,x))).length+t'.length)(hc:Av 44 t'=some t'')(hB:Bd (Dk (g,x)))(hg:g.tag<=200):
  RI S K fs t1 false (ps++[(g,x)]) g.tag t'':=by
 obtain⟨m,hm⟩:=h.fuel;have e:t'=44::t'':=Cu.1 hc;refine⟨fun _=>?_,?_,fun p hp=>?_,by have:=h.lo;simp;omega,hg⟩
 ·rw[h.eq rfl,hm,show 201 - (ps++[(g,x)]).length=m by simp;omega];conv=>lhs;unfold El
  rw[hK];simp only;rw[if_neg fR,hc];simp only;cases El S K fs m g.tag t''<;>simp[Qb]
 ·have:=h.len;rw[az,az,Nb];simp[D7,Dh]at this ⊢;rw[e]at hlen;simp at hlen;omega
 rcases af.1 hp with hp|hp
 ·exact h.bd p hp
 rw[aq]at hp;subst hp;exact hB
theorem RI.stop(h:RI S K fs t1 false ps last tt)(hs:∀y,Dj K fs tt=some y->y.1.1.tag<=last\/Az y.1.2=G9 S y.1.1)(hl:t'.length<=tt.length):RE S K fs t1 false (ps.map Dk) t' true N:=by
 obtain⟨m,hm⟩:=h.fuel;refine⟨ps,?_,fun h=>Bool.noConfusion h,by have:=h.len;omega,fun y hy=>by obtain⟨p,hp,rfl⟩:=ax.1 hy;exact h.bd p hp,by have:=h.lo;have:=h.hi;simp;omega⟩;rw[if_neg aJ,h.eq rfl,hm];unfold El;cases hk:Dj K fs tt with
 |none=>rfl
 |some y=>
  obtain⟨p,z⟩:=y;simp only;rw[if_pos (hs _ hk)];rfl
theorem RI.brk(h:RI S K fs t1 false ps last tt)(hx:∀y,Dj K fs tt=some y->y=((g,x),t'))(hl:last<g.tag)(hne:Az x≠G9 S g)(hc:Bi [44] t' (Dj K fs tt).isNone=none)(hB:Bd (Dk (g,x)))
  (hn:(Az (Dk (g,x))).length+t'.length<=tt.length+8*N):RE S K fs t1 false (ps.map Dk++[Dk (g,x)]) t' (Dj K fs tt).isNone N:=by
 obtain⟨m,hm⟩:=h.fuel;refine⟨ps++[(g,x)],?_,fun _=>by simp,?_,?_,by have:=h.lo;have:=h.hi;simp;omega⟩
 ·rw[if_neg aJ,h.eq rfl,hm];unfold El;cases hk:Dj K fs tt with
  |none=>rfl
  |some y=>
   have:=hx y hk;subst this;rw[hk,Cq]at hc;simp only[Option.isNone_some,ao,if_false]at hc ⊢;rw[if_neg fR,hc];simp only;cases Av 125 t'<;>simp[Qb]
 ·have:=h.len;rw[az,Nb];simp[D7,Dh]at this ⊢;omega
 intro y hy;rcases af.1 hy with hy|hy
 ·obtain⟨p,hp,rfl⟩:=ax.1 hy;exact h.bd p hp
 rw[aq]at hy;subst hy;exact hB
theorem RE.fin{vs:List Vl}{bb:Bool}{t:List UInt8}(h:RE S K fs t1 b1 vs tt bb N)(h1:t1=(Bi [123] t false).getD t)(hb1:b1=(Bi [123] t false).isNone)(h2:Bi [125] t1 b1=none):
  (match Av 123 t with
   |none=>none
   |some r=>match Av 125 r with
    |some q=>some (Vl.mk 82 [] 0 [],q)
    |none=>match El S K fs 201 0 r with|some (ps,q)=>some (.mk 82 [] 0 (ps.map Dk),q)|none=>none) =
  if (Bi [125] tt bb).isNone then none else some (.mk 82 [] 0 vs,(Bi [125] tt bb).getD tt):=by
 obtain⟨ps,h3,h4,_⟩:=h;rw[Cq]at h1 hb1 h2 ⊢;simp only[ao,if_false]at h1 hb1;cases hy:Av 123 t with
 |none=>
  rw[hy]at hb1;simp only[Option.isNone_none]at hb1;subst hb1;simp only[if_true]at h3;simp only;cases bb with
  |true=>simp
  |false=>
   simp only[ao,if_false]at h3 ⊢;cases hz:Av 125 tt with
   |none=>simp
   |some z=>rw[hz]at h3;cases h3
 |some r=>
  rw[hy]at h1 hb1;simp only[Option.isNone_some,Option.getD_some]at h1 hb1;subst h1 hb1;simp only[ao,if_false]at h2 h3;simp only;rw[h2];simp only;rw[h3];cases bb with
  |true=>simp
  |false=>
   rw[h4 rfl];simp only[ao,if_false];cases Av 125 tt<;>simp
end
theorem Xy(w0:World)(x:PT)(hx:P8 w0 x)(n:Nat)(hn:n<=1000000000)(f:Fd)(hf:Au x.ty.fields n=some f):∃b o,b<w0.heap.size/\w0.rangeAt b o (Rt f)/\∀W,Below w0.heap.size w0 W ->
  Calls prog 57 #[.pointer (some ⟨x.blk,0,none⟩),.int .i64 n] W fun e w'=>e=.returned (.pointer (some ⟨b,o,none⟩))/\W=w':=by
 obtain⟨z0,_,_,_,z3,_,A,c,hfv,hl,hr⟩:=hx
 rw[hfv]at z3
 unfold Au at hf
 obtain⟨hp,j,hj,hfj,hlt⟩:=List.find?_eq_some_iff_getElem.1 hf
 obtain⟨b,off,rfl,hbl,hrg⟩:=Q5.range hr hj
 rw[hfj]at hrg
 refine⟨b,off+j*6,hbl,hrg,fun W hW=>?_⟩
 have c2:W.cell? ⟨x.blk,2,none⟩=some (.slice (some ⟨b,off,none⟩) x.ty.fields.length c):=(hW.cell (p:=⟨x.blk,2,none⟩) z0).trans z3
 have Hr:=Aa hr
 have Hb:=Aa hW
 have Hlt:=Aa hlt
 have Htag:=Aa (show f.tag=n from by simpa using hp)
 have Hfj:=Aa hfj
 clear hr hfv z3 hW hlt hp hfj hf hrg
 go_enter func57,ntmps57
 go_wp2_with fail
 go_loop [11] (fun i=>∃k:Nat,i=.int .i64 k/\k<=j) (fun i=>x.ty.fields.length - (intOf i).toNat)
 case atStart=>exact⟨0,rfl,Nat.zero_le _⟩
 case round=>
  obtain⟨k,rfl,hk⟩:=hrel
  have hkl:k<x.ty.fields.length:=by omega
  obtain⟨b',off',e',hbl',hrg'⟩:=Q5.range Hr.o hkl
  injection e' with e'
  injection e' with e1 e2
  subst e1 e2
  have c0:W.cell? ⟨b,off+k*6,none⟩=some (.int .i64 ((x.ty.fields[k]).tag:Int)):=by simpa using Ab (Ah hrg' hbl' Hb.o) 0 rfl
  have k1:(0:Int)<=(k:Int):=by omega
  have k2:(k:Int)<(x.ty.fields.length:Int):=by omega
  clear hrg'
  by_cases he:k=j
  ·subst he
   rw[Hfj.o,Htag.o]at c0
   have t1:((n:Int) == (n:Int))=true:=by simp
   go_wp2_with fail
   go_ret
   exact⟨rfl,rfl⟩
  ·have hne:(x.ty.fields[k]).tag≠n:=by have:=Hlt.o k (by omega);simpa using this
   have t1:(((x.ty.fields[k]).tag:Int) == (n:Int))=false:=by rw[beq_eq_false_iff_ne];omega
   generalize (x.ty.fields[k]).tag=tk at *
   clear hne
   go_wp2_with fail
   go_round
   case rel=>exact⟨k+1,by go_num,by omega⟩
   case measure=>simp[intOf];omega
def Rd(tt:List UInt8)(N:Nat)(r:Option (Vl × List UInt8))(v:Vl)(t':List UInt8):Prop:=
 (∀x,r=some x->v=x.1/\t'=x.2)/\Bd v/\t'.length<=tt.length/\(Az v).length+t'.length<=tt.length+8*N
structure Qoj(w:World)(b B:Nat)(p:Value)(k:Kd)(h0 h1 h2 rv:Value)(xs:List (Vl × Value))(tt:List UInt8)(bb:Bool)(N:Nat)(r:Option (Vl × List UInt8))(c s a d:Bool)(uc us ua:Value)(W:World):Prop where
 r1:∃t2 bad2,M0 w b p k t2 bad2 W/\(c=false->t2=tt/\bad2=bb)
 r2:a=false->Tq (B+1) B W h0 h1 h2 rv rv xs
 r3:c=true->∃v sl t',uc=Ec v sl/\Rd tt N r v t'/\M0 w b p k t' r.isNone W/\(a=false->Ea (fun c=>B+1<=c/\rv.ownBlock≠some c) W sl v.kids) /\
  (s=true->a=false->∃W7,W=W7.alloc (.cells (Ka (v,sl)).toArray 68)/\us=.slice (some ⟨W7.heap.size,0,none⟩) 1 1/\Tq (B+1) B W7 h0 h1 h2 rv rv xs/\Ea (fun c=>B+1<=c/\rv.ownBlock≠some c) W7 sl v.kids/\M0 w b p k t' r.isNone W7) /\
  (a=true->d=false->∃A n c,ua=.slice A n c/\Tq (B+1) B W h0 h1 h2 rv ua (xs++[(v,sl)])) /\
  (d=true->∃A n c,ua=.slice A n c/\Tq (B+1) B W h0 h1 h2 ua ua (xs++[(v,sl)]))
theorem Qiq(w0:World)(b N:Nat)(p:Value)(S:List Ty)(t:List UInt8)(k:Kd)(w:World)(hw:Below w0 w0 w)(hb:w0.heap.size<=b)(h:H6 w b p t false)(hl:t.length<=900)(hN:t.length<=N)(hN2:N<=2000)
  (H:IvC w0 b p S N k) (HG:∀s v r,Ar S 1000 N k s=some (v,r)->s=Az v++r) (q:Option (Vl × List UInt8)) (hq:q=Xx (Ar S 1000 N k) 1000 t):
  Calls prog 140 #[b,D9 k] w (M4 w b p t (N+1) q):=by
 have HQ:=Aa hq;have HH:=Aa H;have HG:=Aa HG;have HS:=Aa h;have HW:=Aa hw;have hb0:=h.1;have hbn:¬(b=w.heap.size):=aH;have hbn2:¬(b=w.heap.size+1):=aH;have hbn3:¬(b=w.heap.size+2):=aH;have hm:=Fe 91 t false;have Hwt:=Aa (fun W (h:H6 W b p t false)=>Du b p t [91] false W h aH);have Hlt0:=Aa (fun r (h:Bi [91] t false=some r)=>Ks h);obtain⟨t1,ht1⟩:∃t1,t1=(Bi [91] t false).getD t:=⟨_,rfl⟩
 obtain⟨b1,hb1⟩:∃b1,b1=(Bi [91] t false).isNone:=⟨_,rfl⟩
 have Ht1:=Aa ht1;have Hb1:=Aa hb1
 have HL1:=Aa (show b1=false->t1.length<N from by
  intro h;rw[hb1]at h;cases hr:Bi [91] t false with
  |none=>rw[hr]at h;cases h
  |some r=>have:=Hlt0.o r hr;rw[ht1,hr];simp;omega)
 rw[<-ht1]at hm;rw[<-ht1,<-hb1]at Hwt;have Htk:=Aa (fun W (h:H6 W b p t1 b1)=>Kk b p t1 [93] b1 W h aH);have HK:=Aa (fun s=>(rfl:Ar S 1000 N k s=Ar S 1000 N k s));clear h hw H hq ht1 hb1 HK;have HF0:=Aa (M0.init (k:=k) HS.o (T:=60) (U:=68));unfold D9;go_enter func140,ntmps140;go_wp2_with fail;obtain⟨W1,hW1⟩:∃W1,W1=((w.alloc (.cells #[k.signs,k.base,k.name] 60)).alloc (.cells #[.int .u8 0,a6,.int .i64 0,.slice none 0 0] 68)).alloc (.cells #[.int .u8 91,a6,.int .i64 0,.slice none 0 0] 68):=⟨_,rfl⟩
 rw[<-hW1];have hz1:W1.heap.size=w.heap.size+3:=cG;have F1:=@Aa (M0 w b p k t false W1) (by rw[hW1];exact HF0.o.post ((Ao _ _).alloc (An _) _))
 have K1:=Aa (show Tq (w.heap.size+2+1) (w.heap.size+2) W1 (.int .u8 91) a6 (.int .i64 0) (.slice none 0 0) (.slice none 0 0) []from by
  have hbk:Qe W1 (w.heap.size+2):=by rw[hW1];have:=Qe.new ((w.alloc (.cells #[k.signs,k.base,k.name] 60)).alloc (.cells #[.int .u8 0,a6,.int .i64 0,.slice none 0 0] 68)) #[.int .u8 91,a6,.int .i64 0,.slice none 0 0] 68;simpa using this
  exact⟨by omega,by omega,by omega,hbk,by rw[hW1];simp[go_sem],by rw[hW1];simp[go_sem],by rw[hW1];simp[go_sem],by rw[hW1];simp[go_sem],World.ownsRow_nil _ _ _ _,by simp⟩)
 clear hW1 HF0;refine(Hwt.o _ F1.o.1.1).mono ?_;rintro e W2 ⟨rfl,hs2⟩;have F2:=Aa (F1.o.step hb0 hs2);have K2:=Aa (K1.o.step hs2.2 aH aH);clear hs2 F1 K1;go_wp2_with fail;refine(Htk.o _ F2.o.1.1).mono ?_;rcases hy:Bi [93] t1 b1 with _|r
 ·have Hy:=Aa hy;clear hy;rintro e W3 ⟨rfl,hs3⟩;simp only[Option.getD_none]at hs3;have F3:=Aa (F2.o.step hb0 hs3);have K3:=Aa (K2.o.step hs3.2 aH aH);clear hs3 F2 K2;go_wp2_with fail;go_loopw [] (fun wr=>∃(xs:List (Vl × Value)) (A:Option Addr) (n c:Nat) (tt:List UInt8),tt.length<=t1.length/\wr.cell? (b,1)=tt/\Hid (M0 w b p k tt b1 wr)/\Hid (Tq (w.heap.size+2+1) (w.heap.size+2) wr (.int .u8 91) a6 (.int .i64 0) (.slice A n c) (.slice A n c) xs)/\Hid (LI (Ar S 1000 N k) t1 b1 (Bc xs) tt))
   (fun wr=>match wr.cell? (b,1)with|some (.string s)=>s.size|_=>0)
  case atStart=>exact⟨[],none,0,0,t1,An _,F3.o.1.1.2.2.2.1,F3.o,K3.o,LI.init _ _ _⟩
  case round=>
   obtain⟨xs,A,n,c,tt,htl,c1,F,K,hI⟩:=hrel;have s2:=F.o.1.1.2.2.2.2;have hxl:xs.length<=900:=by have:=hI.o.len;simp[Bc]at this;omega
   cases b1 with
   |true=>
    go_wp2_with fail;have Hw9:=Aa (fun W (h:H6 W b p tt true)=>Du b p tt [93] true W h aH);refine(Hw9.o _ F.o.1.1).mono ?_;rintro e W7 ⟨rfl,hs7⟩;have F7:=Aa (F.o.step hb0 hs7);have K7:=Aa (K.o.step hs7.2 aH aH);have hfin:=Aa (HQ.o.trans ((Aa (hI.o.bad (N:=N))).o.fin Ht1.o Hb1.o Hy.o));have hle9:=Fe 93 tt true;have hE9:=(Aa (hI.o.bad (N:=N))).o.2.1;obtain⟨t4,ht4⟩:∃t4,t4=(Bi [93] tt true).getD tt:=⟨_,rfl⟩
    obtain⟨b4,hb4⟩:∃b4,b4=(Bi [93] tt true).isNone:=⟨_,rfl⟩
    rw[<-ht4]at F7 hfin hle9;rw[<-hb4]at F7 hfin;have e7:(Bc xs).length=(xs).length:=by simp[Bc]
    obtain⟨ys,hys⟩:∃ys,ys=xs:=⟨_,rfl⟩
    rw[<-hys]at K7 hfin hE9 e7;have HB9:=Aa (Aa (hI.o.bad (N:=N))).o.2.2;rw[<-hys]at HB9;have hyl:ys.length<=1000:=by rw[hys];omega
    have d0:=K7.o.c0;have d1:=K7.o.c1;have d2:=K7.o.c2;have d3:=K7.o.c3;have s7:=F7.o.1.1.2.1.live 2;have s8:=F7.o.1.1.2.2.2.2;have q7:=F7.o.1.1.1;have hn7:n=ys.length:=Nh K7.o.row;subst hn7;clear hs7 ht4 hb4 hys;by_cases h20:ys.length<=20
    ·have t20:decide ((20:Int)<(ys.length:Int))=false:=aC aH;go_wp2_with ((with_reducible refine Af (op:=⟨none,.store 68 _ _,_,_,_,none⟩) rfl 68 _ _ rfl (w.heap.size+1) 0 [.int .u8 91,a6,.int .i64 0,.slice A ys.length c] ?_ ?_ ?_ ?_ ?_ ?_);rfl;rfl;(exact F7.o.2.2.1);kernel_rfl;(simp[Value.oneCell']);intro w9 HS9)
     have Z:=M0.fin (t:=t) (N:=N+1) (v:=.mk 91 [] 0 (Bc ys)) (sl:=.slice A ys.length c) (r:=q) F7.o hb0 HS9.o ((K7.o.done hyl).mono fun c hc _=>by omega) di
      di (.mk aJ aH aK HB9.o) aH eK
     exact lO
    have t20:decide ((20:Int)<(ys.length:Int))=true:=aD aH;have F8:=Aa (F7.o.step hb0 ⟨F7.o.1.1.setBad true,Am _ b 2 (.bool true)⟩);have K8:=Aa (K7.o.step (Am _ b 2 (.bool true)) aH aH);go_wp2_with ((with_reducible refine Af (op:=⟨none,.store 68 _ _,_,_,_,none⟩) rfl 68 _ _ rfl (w.heap.size+1) 0 [.int .u8 91,a6,.int .i64 0,.slice A ys.length c] ?_ ?_ ?_ ?_ ?_ ?_);rfl;rfl;(exact F8.o.2.2.1);kernel_rfl;(simp[Value.oneCell']);intro w9 HS9)
    have Z:=M0.fin (t:=t) (N:=N+1) (v:=.mk 91 [] 0 (Bc ys)) (sl:=.slice A ys.length c) (r:=q) F8.o hb0 HS9.o ((K8.o.done hyl).mono fun c hc _=>by omega) ew
     ew (.mk aJ aH aK HB9.o) aH eK
    exact lO
   |false=>
    have h1N:=HL1.o rfl;go_wp2_with fail;refine Jd [17,18,19,20,21,22,23,24,999]
     (fun ix v W=>match ix with|0=>v=(w,2,3)|1=>v=.slice A n c|2=>v=b|3=>v=D9 k|4=>∃x s,v=Ec x s|5=>∃g,v=.slice (some ⟨g,0,none⟩) 1 1|6=>∃A n c,v=.slice A n c|7=>v=(w,2,3)|_=>True)
     (fun L U W=>Qoj w b (w.heap.size+2) p k (.int .u8 91) a6 (.int .i64 0) (.slice A n c) xs tt false N (Ar S 1000 N k tt) (L 4) (L 5) (L 6) (L 8) (U 4) (U 5) (U 6) W) (⟨⟨tt,false,F.o.post (Ao _ _).drew,fun _=>⟨rfl,rfl⟩⟩,fun _=>K.o.after (Ao _ _).drew,fun h=>Bool.noConfusion h⟩) ?_ ?_
    ·repeat (first|exact Ak.nil|(refine Ak.cons ?_ ?_;rotate_left))
     all_goals
      rintro L U W hL hpre HR Hdep K hK;obtain⟨⟨t2,bad2,hF2,hF2'⟩,R2,R3⟩:=HR.o;have k0:=Ab hF2.2.1 0 rfl;have k1:=Ab hF2.2.1 1 rfl;have k2:=Ab hF2.2.1 2 rfl;simp only[am]at k0 k1 k2;first|(simp[Region.binds]at hpre;done)|simp[Region.binds]at hpre|clear hpre
     ·exact hD
     ·have h6:L 6=false:=Bb Hdep.o 6 1 rfl hL;have g3:=(R2 h6).c3;exact kL
     ·exact hD
     ·go_simp;first|exact hK (D9 k) _ _ rfl Ac HR.o rfl|exact hK (D9 k) _ _ rfl Ac HR.o aI
     ·have h5:L 5=false:=Bb Hdep.o 5 4 rfl hL;have h6:L 6=false:=Bb Hdep.o 6 5 rfl h5;have h8:L 8=false:=Bb Hdep.o 8 6 rfl h6;obtain⟨rfl,rfl⟩:=hF2' hL;go_simp;refine(HH.o t2 false _ (hF2.1.env HW.o hb) hF2.1.1 aH (fun _=>by omega)).mono ?_;rintro e w5 ⟨v,sl,t',rfl,hk5,hs5,hx5,hB5,hl5,hn5⟩;simp only[ao,if_false]at hx5 hs5;have hF5:=hF2.step hb0 hs5;have hK5:=(R2 h6).step hs5.2 aH aH;have hks:Ea (fun g=>w.heap.size+2+1<=g/\(Value.slice A n c).ownBlock≠some g) w5 sl v.kids:=hk5.mono fun c hc _=>⟨by have:=(R2 h6).bs;omega,fun e=>by have:=((R2 h6).row.lt c e).2;omega⟩
      exact hK (Ec v sl) _ _ ⟨v,sl,rfl⟩ Ac ⟨⟨t',_,hF5,fun h=>by simp at h⟩,fun _=>hK5,fun _=>⟨v,sl,t',rfl,⟨hx5,hB5,hl5,hn5⟩,hF5,fun _=>hks,fun h=>absurd (h5.symm.trans aR) aJ,fun h=>absurd (h6.symm.trans aR) aJ,fun h=>absurd (h8.symm.trans aR) aJ⟩⟩ aI
     ·have h6:L 6=false:=Bb Hdep.o 6 5 rfl hL;have h8:L 8=false:=Bb Hdep.o 8 6 rfl h6;obtain⟨v,sl,t',u4,hrd,hF3,hks,_,_,_⟩:=R3 hpre.1;obtain⟨A7,c7,rfl⟩:=(hks h6).form;have hba:Below W W (W.alloc (.cells (Ka (v,.slice A7 v.kids.length c7)).toArray 68)):=(Ao _ _).alloc (An _) _;unfold Ec at u4;go_simp;exact hK (.slice (W,0) 1 1) _ _ ⟨W.heap.size,rfl⟩ Ac ⟨⟨t',_,hF3.post hba,fun h=>absurd (hpre.1.symm.trans aR) aJ⟩,fun _=>(R2 h6).after hba,fun _=>⟨v,_,t',u4,hrd,hF3.post hba,fun _=>(hks h6).after hba,fun _ _=>⟨W,rfl,rfl,R2 h6,hks h6,hF3⟩,fun h=>absurd (h6.symm.trans aR) aJ,fun h=>absurd (h8.symm.trans aR) aJ⟩⟩ (by simp[Act.put,u4])
     ·have h8:L 8=false:=Bb Hdep.o 8 6 rfl hL;obtain⟨lv,uv⟩:=hpre.1;have ls:L 5=true:=hpre.2.1.1;have lc:L 4=true:=hpre.2.2.1;obtain⟨v,sl,t',u4,hrd,hF3,hks,hs,_,_⟩:=R3 lc;obtain⟨W7,rfl,u5,hK7,hk7,hF7⟩:=hs ls hL;obtain⟨A7,c7,e7⟩:=hk7.form;have hlen7:=hK7.row;rw[if_pos cr];refine Fp W7 (.tmp 18) (.tmp 22) 66 rfl (w.heap.size+2+1) 68 (.agg #[.int .u8 0,a6,.int .i64 0,.slice none 0 0]) 4 56 underlying66 Ya rfl aJ (Ka (v,sl)) rfl (Ye _ (by rw[e7];rfl)) (.slice A n c) xs.length (xs.flatMap Ka) uv u5 hK7.row aU aH hK7.bs ?_;intro v' w' hown hg hwh;obtain⟨A5',n5',c5',rfl⟩:=Sk hown;have hKa:=hK7.app (x:=(v,sl)) hk7 hown hg hwh;have hFa:M0 w b p k t' (Ar S 1000 N k tt).isNone w':=hF7.app hb0 hg (fun c e=>by have:=(hK7.row.lt c e).1;omega);exact hK _ _ _ ⟨A5',n5',c5',rfl⟩ Ac ⟨⟨t',_,hFa,fun h=>absurd (lc.symm.trans aR) aJ⟩,fun h=>by simp at h,fun _=>⟨v,sl,t',u4,hrd,hFa,fun h=>by simp at h,fun _ h=>by simp at h,fun _ _=>⟨A5',n5',c5',rfl,hKa⟩,fun h=>absurd (h8.symm.trans aR) aJ⟩⟩ rfl
     ·exact hD
     ·obtain⟨la,A5',n5',c5',ua⟩:=hpre.2.1;have up:=hpre.1.2;have ls:L 5=true:=by
       cases h5:L 5 with
       |true=>rfl
       |false=>exact absurd (la.symm.trans (Bb Hdep.o 6 5 rfl h5)) aJ
      have lc:L 4=true:=by
       cases h4:L 4 with
       |true=>rfl
       |false=>exact absurd (ls.symm.trans (Bb Hdep.o 5 4 rfl h4)) aJ
      obtain⟨v,sl,t',u4,hrd,hF3,_,_,ha,_⟩:=R3 lc;obtain⟨A6',n6',c6',ua',hKa⟩:=ha la hL;rw[ua]at hKa;have hcell:=hKa.c3;have hfz:=hKa.bk.live 3;have hst:=hKa.store;have hst2:Tq (w.heap.size+2+1) (w.heap.size+2) (W.setCell ⟨w.heap.size+2,3,none⟩ (.slice A5' n5' c5')) (.int .u8 91) a6 (.int .i64 0) (U 6) (U 6) (xs++[(v,sl)]):=by rw[ua];exact hst
      have hFs:M0 w b p k t' (Ar S 1000 N k tt).isNone (W.setCell ⟨w.heap.size+2,3,none⟩ (.slice A5' n5' c5')):=hF3.put hb0 aH _;go_simp;exact hK undef _ _ Ac Ac ⟨⟨t',_,hFs,fun h=>absurd (lc.symm.trans aR) aJ⟩,fun h=>absurd (la.symm.trans aR) aJ,fun _=>⟨v,sl,t',u4,hrd,hFs,fun h=>absurd (la.symm.trans aR) aJ,fun _ h=>absurd (la.symm.trans aR) aJ,fun _ h=>by simp at h,fun _=>⟨A5',n5',c5',ua,hst2⟩⟩⟩ (by simp[Act.put,hpre,up,ua,u4])
    rintro L U W hL hφ hR;clear hφ;obtain⟨_,_,h3⟩:=hR;obtain⟨v,sl,t',_,hrd,hF,_,_,_,hd⟩:=h3 (hL 4 aJ);obtain⟨A5,n5,c5,e5,hK5⟩:=hd (hL 8 aJ);rw[e5]at hK5;have F5:=Aa hF;have K5:=Aa hK5;have Rd5:=Aa hrd;have ht5:=hrd.2.2.1;clear hL h3 hd hF hK5 hrd;have Htk5:=Aa (fun W (h:H6 W b p t' (Ar S 1000 N k tt).isNone)=>Kk b p t' [44] (Ar S 1000 N k tt).isNone W h aH);go_wp2_with fail;refine(Htk5.o _ F5.o.1.1).mono ?_;rcases hc:Bi [44] t' (Ar S 1000 N k tt).isNone with _|r
    ·have Hc:=Aa hc;clear hc;rintro e W6 ⟨rfl,hs6⟩;simp only[Option.getD_none]at hs6;have F6:=Aa (F5.o.step hb0 hs6);have K6:=Aa (K5.o.step hs6.2 aH aH)
     have E6:=Aa (show LE (Ar S 1000 N k) t1 false (Bc (xs++[(v,sl)])) t' (Ar S 1000 N k tt).isNone N from by
      have:=hI.o.brk (N:=N) Rd5.o.1 Hc.o Rd5.o.2.1 aH Rd5.o.2.2.2;simpa [Bc]using this)
     clear hs6 F5 K5 Hc;go_wp2_with fail;have Hw9:=Aa (fun W (h:H6 W b p t' (Ar S 1000 N k tt).isNone)=>Du b p t' [93] (Ar S 1000 N k tt).isNone W h aH);refine(Hw9.o _ F6.o.1.1).mono ?_;rintro e W7 ⟨rfl,hs7⟩;have F7:=Aa (F6.o.step hb0 hs7);have K7:=Aa (K6.o.step hs7.2 aH aH);have hfin:=Aa (HQ.o.trans (E6.o.fin Ht1.o Hb1.o Hy.o));have hle9:=Fe 93 t' (Ar S 1000 N k tt).isNone;have hE9:=E6.o.2.1;obtain⟨t4,ht4⟩:∃t4,t4=(Bi [93] t' (Ar S 1000 N k tt).isNone).getD t':=⟨_,rfl⟩
     obtain⟨b4,hb4⟩:∃b4,b4=(Bi [93] t' (Ar S 1000 N k tt).isNone).isNone:=⟨_,rfl⟩
     rw[<-ht4]at F7 hfin hle9;rw[<-hb4]at F7 hfin;have e7:(Bc (xs++[(v,sl)])).length=((xs++[(v,sl)])).length:=by simp[Bc]
     obtain⟨ys,hys⟩:∃ys,ys=(xs++[(v,sl)]):=⟨_,rfl⟩
     rw[<-hys]at K7 hfin hE9 e7;have HB9:=Aa E6.o.2.2;rw[<-hys]at HB9;have hyl:ys.length<=1000:=by rw[hys];simp;omega
     have d0:=K7.o.c0;have d1:=K7.o.c1;have d2:=K7.o.c2;have d3:=K7.o.c3;have s7:=F7.o.1.1.2.1.live 2;have s8:=F7.o.1.1.2.2.2.2;have q7:=F7.o.1.1.1;have hn7:n5=ys.length:=Nh K7.o.row;subst hn7;clear hs7 ht4 hb4 hys;by_cases h20:ys.length<=20
     ·have t20:decide ((20:Int)<(ys.length:Int))=false:=aC aH;go_wp2_with ((with_reducible refine Af (op:=⟨none,.store 68 _ _,_,_,_,none⟩) rfl 68 _ _ rfl (w.heap.size+1) 0 [.int .u8 91,a6,.int .i64 0,.slice A5 ys.length c5] ?_ ?_ ?_ ?_ ?_ ?_);rfl;rfl;(exact F7.o.2.2.1);kernel_rfl;(simp[Value.oneCell']);intro w9 HS9)
      have Z:=M0.fin (t:=t) (N:=N+1) (v:=.mk 91 [] 0 (Bc ys)) (sl:=.slice A5 ys.length c5) (r:=q) F7.o hb0 HS9.o ((K7.o.done hyl).mono fun c hc _=>by omega) di
       di (.mk aJ aH aK HB9.o) aH eK
      exact lP
     have t20:decide ((20:Int)<(ys.length:Int))=true:=aD aH;have F8:=Aa (F7.o.step hb0 ⟨F7.o.1.1.setBad true,Am _ b 2 (.bool true)⟩);have K8:=Aa (K7.o.step (Am _ b 2 (.bool true)) aH aH);go_wp2_with ((with_reducible refine Af (op:=⟨none,.store 68 _ _,_,_,_,none⟩) rfl 68 _ _ rfl (w.heap.size+1) 0 [.int .u8 91,a6,.int .i64 0,.slice A5 ys.length c5] ?_ ?_ ?_ ?_ ?_ ?_);rfl;rfl;(exact F8.o.2.2.1);kernel_rfl;(simp[Value.oneCell']);intro w9 HS9)
     have Z:=M0.fin (t:=t) (N:=N+1) (v:=.mk 91 [] 0 (Bc ys)) (sl:=.slice A5 ys.length c5) (r:=q) F8.o hb0 HS9.o ((K8.o.done hyl).mono fun c hc _=>by omega) ew
      ew (.mk aJ aH aK HB9.o) aH eK
     exact lP
    have Hc:=Aa hc;have hcl:=Ks hc;clear hc;rintro e W6 ⟨rfl,hs6⟩;simp only[Option.getD_some]at hs6;cases hk:Ar S 1000 N k tt with
    |none=>rw[hk,Cq]at Hc;exact absurd Hc.o aK
    |some y=>
     have Hk:=Aa hk;rw[hk]at hs6 F5 Rd5;have F6:=Aa (F5.o.step hb0 hs6);have K6:=Aa (K5.o.step hs6.2 aH aH)
     have I6:=Aa (show LI (Ar S 1000 N k) t1 false (Bc (xs++[(v,sl)])) r from by
      obtain⟨e1,e2⟩:=Rd5.o.1 y rfl;have hg:=HG.o tt y.1 y.2 (by rw[Hk.o]);have h44:Av 44 t'=some r:=by have:=Hc.o;rw[Hk.o,Cq]at this;simpa using this
      have:=hI.o.step (v:=v) (t':=t') (by rw[Hk.o,e1,e2]) (by rw[hg,e1,e2];simp) h44 Rd5.o.2.1 aH;simpa [Bc]using this)
     have c6:=F6.o.1.1.2.2.2.1;clear hs6 F5 K5 hk;go_wp2_with fail;go_roundw
     case rel=>exact⟨xs++[(v,sl)],A5,n5,c5,r,by omega,c6,F6.o,K6.o,I6.o⟩
     case measure=>simp[c1,c6,ByteArray.size];omega
 have Hy:=Aa hy;have hlt:=Ks hy;clear hy;rintro e W3 ⟨rfl,hs3⟩;simp only[Option.getD_some]at hs3;have F3:=Aa (F2.o.step hb0 hs3);have K3:=Aa (K2.o.step hs3.2 aH aH);clear hs3 F2 K2;have d0:=K3.o.c0;have d1:=K3.o.c1;have d2:=K3.o.c2;have d3:=K3.o.c3;go_wp2_with ((with_reducible refine Af (op:=⟨none,.store 68 _ _,_,_,_,none⟩) rfl 68 _ _ rfl (w.heap.size+1) 0 [.int .u8 91,a6,.int .i64 0,.slice none 0 0] ?_ ?_ ?_ ?_ ?_ ?_);rfl;rfl;(exact F3.o.2.2.1);kernel_rfl;(simp[Value.oneCell']);intro w9 HS9)
 have hq2:q=some (.mk 91 [] 0 [],r):=by
  have h1:=Ht1.o;have h2:=Hb1.o;have h3:=Hy.o;rw[HQ.o];rw[Cq]at h1 h2 h3;unfold Xx;simp only[ao,if_false]at h1 h2;cases h9:Av 91 t with
  |none=>rw[h9]at h2;simp at h2;subst h2;simp at h3
  |some z=>
   rw[h9]at h1 h2;simp at h1 h2;subst h1 h2;simp only[ao,if_false]at h3;simp only[h3]
 have Z:=M0.fin (t:=t) (N:=N+1) (v:=.mk 91 [] 0 []) (sl:=.slice none 0 0) (r:=q) F3.o hb0 HS9.o (Ea.nil _ _) (by rw[hq2];cases b1;rfl;have:=Hy.o;rw[Cq]at this;simp at this)
  (by rw[hq2];simp) (Fo aJ aJ) aH (by simp[Az,D3,H4,Aw];omega)
 exact aF (v:=.agg (Gl (.mk 91 [] 0 []) (.slice none 0 0)).toArray) (Bh results140 _ _ (w.heap.size+1) _ _ rfl Z.2 underlying68 rfl aN) rfl Z.1
structure Vb(B:Nat)(W:World)(h0 h1 h2 h3:Value):Prop where
 lt:B<W.heap.size
 bk:Qe W B
 c0:W.cell? (B,0)=some h0
 c1:W.cell? (B,1)=some h1
 c2:W.cell? (B,2)=some h2
 c3:W.cell? (B,3)=some h3
theorem Vb.new{w:World}{h0 h1 h2 h3:Value}{T:TypeId}:Vb w.heap.size (w.alloc (.cells #[h0,h1,h2,h3] T)) h0 h1 h2 h3:=⟨by simp,Qe.new _ _ _,by simp,by simp,by simp,by simp⟩
theorem Vb.grown{B:Nat}{W W':World}{h0 h1 h2 h3:Value}{row:Option Nat}(h:Vb B W h0 h1 h2 h3)(hg:W.grownBy W' row)(hn:some B≠row):Vb B W' h0 h1 h2 h3:=
 ⟨ac h.lt hg.size,h.bk.grown h.lt hg hn,hg.cell h.c0 hn,hg.cell h.c1 hn,hg.cell h.c2 hn,hg.cell h.c3 hn⟩
theorem Vb.after{B:Nat}{W W':World}{h0 h1 h2 h3:Value}(h:Vb B W h0 h1 h2 h3)(hb:Below W W W'):Vb B W' h0 h1 h2 h3:=h.grown (Ci hb none) aK
theorem Vb.set2{B:Nat}{W:World}{h0 h1 h2 h3:Value}(h:Vb B W h0 h1 h2 h3)(v:Value):Vb B (W.setCell ⟨B,2,none⟩ v) h0 h1 v h3:=by
 have hf:=h.bk.live 2;exact⟨by simpa using h.lt,h.bk.set _,by simp[go_sem,h.c0],by simp[go_sem,h.c1],by simp[go_sem,h.c2,hf],by simp[go_sem,h.c3]⟩
theorem Vb.set3{B:Nat}{W:World}{h0 h1 h2 h3:Value}(h:Vb B W h0 h1 h2 h3)(v:Value):Vb B (W.setCell ⟨B,3,none⟩ v) h0 h1 h2 v:=by
 have hf:=h.bk.live 3;exact⟨by simpa using h.lt,h.bk.set _,by simp[go_sem,h.c0],by simp[go_sem,h.c1],by simp[go_sem,h.c2],by simp[go_sem,h.c3,hf]⟩
theorem Rh.init{w:World}{b:Nat}{p:Value}{t:List UInt8}{bad:Bool}(h:H6 w b p t bad){T:TypeId}:Rh w b p w.heap.size t bad (w.alloc (.cells #[.int .u8 0,a6,.int .i64 0,.slice none 0 0] T)):=
 ⟨⟨h.grow ((Ao _ _).alloc (An _) _),Ci ((Ao _ _).alloc (An _) _) _⟩,Bz w [.int .u8 0,a6,.int .i64 0,.slice none 0 0] _,An _,by simp⟩
theorem Ql9(fs:List Fd)(t:List UInt8)(t1 t2:List UInt8)(b1 b2:Bool)(h1:t1=(Bi [35] t false).getD t)(hb1:b1=(Bi [35] t false).isNone)(h2:t2=t1.dropWhile Bl)(hb2:b2=(b1 || !Je 200 t1)):
  (match Av 35 t with
   |none=>none
   |some r=>match G0 fs r with|some (f,q)=>some (Vl.mk 69 [] f.tag [],q)|none=>none)=if b2 || (Au fs (J0 t1)).isNone then none else some (.mk 69 [] (J0 t1) [],t2):=by
 rw[Cq]at h1 hb1;simp only[ao,if_false]at h1 hb1;cases hy:Av 35 t with
 |none=>rw[hy]at hb1;simp at hb1;subst hb1 hb2;simp
 |some r=>
  rw[hy]at h1 hb1;simp at h1 hb1;subst h1 hb1 h2 hb2;simp only[Qer];cases Je 200 t1 with
  |false=>simp
  |true=>
   simp only[if_true,Bool.false_or,Bool.not_true];cases hf:Au fs (J0 t1)with
   |none=>simp
   |some f=>have:=(At hf).1;simp[this]
theorem Qkg(w0:World)(b N:Nat)(p:Value)(S:List Ty)(x:PT)(hx:P8 w0 x)(h9:x.ty.sort=69)(t:List UInt8)(w:World)(hw:Below w0 w0 w)(hb:w0.heap.size<=b)(h:H6 w b p t false)(hl:t.length<=900)
  (q:Option (Vl × List UInt8)) (hq:q=Kv S (Ar S 1000 N) x.ty t):
  Calls prog 143 #[b,x.blk] w (M4 w b p t (N+1) q):=by
 have HQ:=Aa (hq.trans (by unfold Kv;rw[if_pos h9]));have HS:=Aa h;have HW:=Aa hw;have hb0:=h.1;have hx0:=hx.1;have x0:=(hw.cell (p:=⟨x.blk,0,none⟩) hx0).trans hx.2.2.1;have hxw:x.blk<w.heap.size:=fZ;have hxn:¬(x.blk=w.heap.size):=fZ;have hxn2:¬(x.blk=w.heap.size+1):=fZ;rw[h9]at x0;have x0':w.cell? (x.blk,0)=some (.int .u8 69):=x0;clear x0;have hm:=Fe 35 t false;have Hwt:=Aa (fun W (h:H6 W b p t false)=>Du b p t [35] false W h aH);obtain⟨t1,ht1⟩:∃t1,t1=(Bi [35] t false).getD t:=⟨_,rfl⟩
 obtain⟨b1,hb1⟩:∃b1,b1=(Bi [35] t false).isNone:=⟨_,rfl⟩
 have HQ2:=Aa (HQ.o.trans (Ql9 x.ty.fields t t1 (t1.dropWhile Bl) b1 (b1 || !Je 200 t1) ht1 hb1 rfl rfl));rw[<-ht1]at hm;rw[<-ht1,<-hb1]at Hwt;have Hn:=Aa (fun W (h:H6 W b p t1 b1)=>Qp b 200 p t1 b1 W h aH aJ);have hnn:=Qbp t1;have hdr:=Qbu Bl t1;have Hf:=Aa (fun W (hW:Below w0 w0 W)=>Ke w0 x hx (J0 t1) W hW aH);have hdl:=Da 5 (J0 t1) en;generalize (b1 || !Je 200 t1)=b2 at *;generalize t1.dropWhile Bl=t2 at *;generalize J0 t1=n at *;clear ht1 hb1 h hw hq h9 HQ;go_enter func143,ntmps143;go_wp2_with fail;have F1:=Aa ((Rh.init HS.o (T:=68)).post ((Ao _ _).alloc (An _) (.cells #[.int .u8 69,a6,.int .i64 0,.slice none 0 0] 68)));have V1:=@Aa (Vb (w.heap.size+1) _ _ _ _ _) (by have:=Vb.new (w:=w.alloc (.cells #[.int .u8 0,a6,.int .i64 0,.slice none 0 0] 68)) (h0:=.int .u8 69) (h1:=a6) (h2:=.int .i64 0) (h3:=.slice none 0 0) (T:=68);simpa using this);refine(Hwt.o _ F1.o.1.1).mono ?_;rintro e w2 ⟨rfl,hs2⟩;have F2:=Aa (F1.o.step hb0 hs2);have V2:=Aa (V1.o.grown hs2.2 aM);clear hs2 F1 V1;go_wp2_with fail;refine(Hn.o _ F2.o.1.1).mono ?_;rintro e w3 ⟨rfl,hs3⟩;have F3:=Aa (F2.o.step hb0 hs3);have V3:=Aa (V2.o.grown hs3.2 aM);clear hs3 F2 V2;have c2:=V3.o.c2;have f2:=V3.o.bk.live 2;have l2:=V3.o.lt;go_wp2_with fail;have F4:=Aa (F3.o.app hb0 (Am w3 (w.heap.size+1) 2 (n:Int)) (fun k e=>by injection e with e;omega));have V4:=Aa (V3.o.set2 (n:Int));refine(Hf.o _ (F4.o.1.env HW.o hb)).mono ?_;rintro e w4 ⟨fp,rfl,hfp,rfl⟩;cases hfo:Au x.ty.fields n with
 |some g=>
  rw[hfo]at hfp HQ2;obtain⟨fb,fo,rfl,_,_⟩:=hfp;have d0:=V4.o.c0;have d1:=V4.o.c1;have d2:=V4.o.c2;have d3:=V4.o.c3;clear hfo c2 f2 l2;generalize w3.setCell ⟨w.heap.size+1,2,none⟩ (n:Int)=w4 at *;go_wp2_with ((with_reducible refine Af (op:=⟨none,.store 68 _ _,_,_,_,none⟩) rfl 68 _ _ rfl w 0 [.int .u8 69,a6,(n:Int),.slice none 0 0] ?_ ?_ ?_ ?_ ?_ ?_);rfl;rfl;(exact F4.o.2.1);kernel_rfl;(simp[Value.oneCell']);intro w9 HS9)
  have Z:=Rh.fin (v:=.mk 69 [] n []) (sl:=.slice none 0 0) F4.o hb0 HS9.o (Ea.nil _ _);refine aF (v:=.agg (Gl (.mk 69 [] n []) (.slice none 0 0)).toArray) (Bh results143 _ _ w.heap.size _ _ rfl Z.2.2 underlying68 rfl aN) rfl ⟨.mk 69 [] n [],_,t2,rfl,Z.1,?_,?_,Fo aH aJ,by omega,by simp[Az,D3,H4];omega⟩
  ·rw[HQ2.o];cases b2<;>exact Z.2.1
  rw[HQ2.o];cases b2<;>simp
 |none=>
  rw[hfo]at hfp HQ2;have hfp':fp=.pointer none:=hfp;subst hfp';have s2:=F4.o.1.1.2.2.2.2;have sb:=F4.o.1.1.2.1.live 2;have s0:=F4.o.1.1.1;clear hfo c2 f2 l2;generalize w3.setCell ⟨w.heap.size+1,2,none⟩ (n:Int)=w4 at *;have F5:=Aa (F4.o.step hb0 ⟨F4.o.1.1.setBad true,Am _ b 2 (.bool true)⟩);have V5:=Aa (V4.o.grown (Am w4 b 2 (.bool true)) aM);have d0:=V5.o.c0;have d1:=V5.o.c1;have d2:=V5.o.c2;have d3:=V5.o.c3;go_wp2_with ((with_reducible refine Af (op:=⟨none,.store 68 _ _,_,_,_,none⟩) rfl 68 _ _ rfl w 0 [.int .u8 69,a6,(n:Int),.slice none 0 0] ?_ ?_ ?_ ?_ ?_ ?_);rfl;rfl;(exact F5.o.2.1);kernel_rfl;(simp[Value.oneCell']);intro w9 HS9)
  have Z:=Rh.fin (v:=.mk 69 [] n []) (sl:=.slice none 0 0) F5.o hb0 HS9.o (Ea.nil _ _);refine aF (v:=.agg (Gl (.mk 69 [] n []) (.slice none 0 0)).toArray) (Bh results143 _ _ w.heap.size _ _ rfl Z.2.2 underlying68 rfl aN) rfl ⟨.mk 69 [] n [],_,t2,rfl,Z.1,?_,?_,Fo aH aJ,by omega,by simp[Az,D3,H4];omega⟩
  ·rw[HQ2.o];simpa using Z.2.1
  rw[HQ2.o];simp
end
end Go.Proofs.YtmmhmlmfhpfgbaaGreatDoor
