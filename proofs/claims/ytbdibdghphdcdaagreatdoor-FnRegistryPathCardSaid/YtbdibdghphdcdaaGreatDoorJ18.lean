/- Texts joined. Conditions: as each theorem names them. -/
import Derived.Test.YtbdibdghphdcdaaGreatDoorJ17
set_option maxRecDepth 100000
set_option maxHeartbeats 32000000
set_option linter.unusedVariables false
set_option linter.unusedSimpArgs false
namespace Go.Proofs.YtbdibdghphdcdaaGreatDoor
open Go.RowKit Go.Proofs.Tryz
section
attribute [local go_sem] Qo7 Qok Qoa Ql9 ByteArray.mk_append_mk
theorem Qcr(p:Value)(xs:List PT)(hok:∀y∈xs,Ft y.ty)(n:Nat)(k:Kd)(w:World)(hsc:Tr w p xs)(hk:Cq k)(hs:k.signs=[])(hb:k.base=[64])(x:PT)(hx:Fh xs k.name=some x)
  (hn:n<=9) (ih:x.ty.sort=85->∀f fs,x.ty.fields=f::fs->∀W,Tr W p xs->Calls prog 90 #[p,Et f.kind] W (Ja (Dt (Ag xs) n f.kind) W)):
  Calls prog 90 #[p,Et k] w (Ja (Dt (Ag xs) (n+1) k) w):=by
 have Hlen:=Aa (S8 (Ag xs) (fun t ht=>by obtain⟨y,hy,rfl⟩:=ax.1 ht;exact hok y hy))
 have HF:=Aa (show Dt (Ag xs) (n+1) k=if x.ty.sort=82 then[123,125]else match x.ty.fields with|[]=>[]|f::_=>if x.ty.sort=69 then 35::Bb f.tag else 60::(Bb f.tag++61::(Dt (Ag xs) n f.kind++[62]))from by
  rw[Dt,if_neg eK,if_neg eK,if_neg bL,if_neg bL,if_neg bL,Jp,hx];rfl)
 have hxm:=(Gp hx).1;have Hto:=Aa (hok _ hxm);have hnl:=Kr hk;have Hsc:=Aa hsc;obtain⟨pb,A,cc,mb,rfl,q0,q1,q2,q3,q4,htys,_⟩:=hsc;obtain⟨z0,_,z1,z2,z3,z4,A8,c,hz8,hl8',hrow8⟩:=htys x hxm;rw[hz8]at z3;have Hrow:=Aa hrow8;have Ih:=Aa ih
 have Hlk:=Aa (fun W (h:Below w w W)=>show (Instr.lookup 118 (.map (some mb)) k.name false).run prog W=.ok x.blk W from by
  have:=Gj (D5.below q4 h) k.name aH;rw[hx]at this;exact this)
 have hmb:=q4.lt;unfold Et;rw[hs,hb];clear hk hs hb hx q1 q3 q4 htys hrow8 ih hok hz8 z2 z4 hxm;go_enter func90,ntmps90;go_wp2_with fail;refine(Kj _ _ _).mono ?_;rintro e w1 ⟨rfl,hb1⟩;obtain⟨hc1,_,hzz⟩:=Cj hb1;have y1:w1.cell? (w,1)=some (.string ⟨#[64]⟩):=(hc1 w 1 aK).trans aK;have y2:w1.cell? (w,2)=k.name:=(hc1 w 2 aK).trans aK;have Hb1:=@Aa (Below w w w1) (((Ap w.heap.size w).alloc (An _) _).trans (hb1.mono aK));have hz1:w.heap.size<w1.heap.size:=eR;have m1:w1.cell? (pb,1)=some (.map (some mb)):=(Hb1.o.cell (p:=⟨pb,1,none⟩) q0).trans q2;have u0:w1.cell? (x.blk,0)=some (.int .u8 (x.ty.sort.toNat:Int)):=(Hb1.o.cell (p:=⟨x.blk,0,none⟩) z0).trans z1;have u2:w1.cell? (x.blk,2)=some (.slice A8 x.ty.fields.length c):=(Hb1.o.cell (p:=⟨x.blk,2,none⟩) z0).trans z3;have Hlook:=Aa (fun q=>Hlk.o (w1.drewN q) (Hb1.o.trans ((below_drewN (Ap _ _) q).mono Hb1.o.size)));clear hc1 hzz hb1 q2 z1 z3;go_wp2_with fail;refine Jo [20,21,22,23,24,25,26,5]
  (fun i v W=>match i with|0=>v=pb|1=>v=pb|2=>v=(pb,1)|3=>v=.map (some mb)|4=>v=(w,2)|5=>v=k.name|6=>v=x.blk|7=>v=x.blk|_=>True)
  (fun L U W=>∃q,W=w1.drewN q) (⟨1,rfl⟩) ?_ ?_
 ·repeat (first|exact Ak.nil|(refine Ak.cons ?_ ?_;rotate_left))
  all_goals
   rintro L U W hL hpre HR Hdep K hK;obtain⟨q,rfl⟩:=HR.o;have hlq:=Hlook.o q;first|(simp[Region.binds]at hpre;done)|simp[Region.binds]at hpre|clear hpre
  iterate 8
   ·exact ip
 rintro L U W hL hφ hR;have e7:U 7=x.blk:=hφ 7 aJ;simp only[e7];clear hφ;obtain⟨q,rfl⟩:=hR;have Hbq:=Aa (Hb1.o.trans ((below_drewN (Ap w1.heap.size w1) q).mono Hb1.o.size));clear hL y1 y2 m1;by_cases h82:x.ty.sort=82
 ·have t82:((x.ty.sort.toNat:Int) == 82)=true:=Bm (d:=82) h82;have HF2:=Aa (HF.o.trans (if_pos h82));clear h82 HF;go_wp2_with fail;go_ret;exact⟨by rw[HF2.o];rfl,Hbq.o⟩
 have t82:((x.ty.sort.toNat:Int) == 82)=false:=Aq (d:=82) h82;have HF2:=Aa (HF.o.trans (if_neg h82));have hne:x.ty.fields≠[]:=fun h=>h82 (Hto.o.2.2.2.2 h);obtain⟨f,fs,hfs⟩:∃f fs,x.ty.fields=f::fs:=by
  cases h:x.ty.fields with
  |nil=>exact absurd h hne
  |cons f fs=>exact⟨f,fs,rfl⟩
 have hf0:0<x.ty.fields.length:=d9;have hge:x.ty.fields[0]=f:=by simp[hfs]
 have hft:=Hto.o.2.2.1.1 f d9;have htag:f.tag<=200:=hft.2.1;have hdl:=Dk 2 f.tag bY;have Hd:=Aa (fun W=>Rt f.tag f.tag W (An _) aH);have hi0:(0:Int)<(x.ty.fields.length:Int):=aH;have HF3:=@Aa (Dt (Ag xs) (n+1) k=if x.ty.sort=69 then 35::Bb f.tag else 60::(Bb f.tag++61::(Dt (Ag xs) n f.kind++[62]))) (by rw[HF2.o,hfs]);have Hfs:=Aa hfs;obtain⟨b,off,rfl,hbl,hrg⟩:=Sp.range Hrow.o hf0;rw[hge]at hrg;have hrq:=Ah hrg hbl Hbq.o;simp only[Nat.zero_mul,Nat.add_zero]at hrq;have g0:(w1.drewN q).cell? ⟨b,off,none⟩=(f.tag:Int):=by simpa using Ab hrq 0 rfl
 have G2:=Aa (Ab hrq 2 rfl);have G3:=Aa (Ab hrq 3 rfl);have G4:=Aa (Ab hrq 4 rfl);have H82:=Aa h82;clear HF2 HF h82 hne hfs hge hft hrg hrq;by_cases h69:x.ty.sort=69
 ·have t69:((x.ty.sort.toNat:Int) == 69)=true:=Bm (d:=69) h69;have HF4:=Aa (HF3.o.trans (if_pos h69));clear h69 HF3;go_wp2_with fail;refine(Hd.o _).mono ?_;rintro e w2 ⟨rfl,hb2⟩;go_wp2_with fail;go_ret;exact⟨by rw[HF4.o];simp,Hbq.o.trans (hb2.mono Hbq.o.size)⟩
 have t69:((x.ty.sort.toNat:Int) == 69)=false:=Aq (d:=69) h69;have HF4:=Aa (HF3.o.trans (if_neg h69));have h85:x.ty.sort=85:=by
  rcases Hto.o.1 with h|h|h
  ·exact absurd h H82.o
  ·exact h
  exact absurd h h69
 have Ih2:=Aa (Ih.o h85 f fs Hfs.o);unfold Et at Ih2;have hsl:=Hlen.o n f.kind;generalize Dt (Ag xs) n f.kind=sl at *;clear h69 HF3 h85 Ih;go_wp2_with fail;obtain⟨W0,hW0⟩:∃W0,W0=w1.drewN q:=⟨_,rfl⟩
 rw[<-hW0]at Hbq g0 G2 G3 G4 ⊢;have Y2:=@Aa (W0.cell? (x.blk,2)=some (.slice (some ⟨b,off,none⟩) x.ty.fields.length c)) (by rw[hW0];exact u2);have Y0:=Aa g0;have Y3:=@Aa (W0.cell? ⟨b,off+2,none⟩=some (.string ⟨f.kind.signs.toArray⟩)) G2.o;have Y4:=@Aa (W0.cell? ⟨b,off+3,none⟩=some (.string ⟨f.kind.base.toArray⟩)) G3.o;have Y5:=@Aa (W0.cell? ⟨b,off+4,none⟩=some (.string ⟨f.kind.name.toArray⟩)) G4.o;have Hx5:=@Aa (x.blk<W0.heap.size) (ac z0 Hbq.o.size);have Hb5:=@Aa (b<W0.heap.size) (ac hbl Hbq.o.size);have Hsc0:=Aa (Hsc.o.below Hbq.o);clear hW0 g0 u0 u2;refine Jo [44,45,46,47,48,49,50,51,52,53,54,55,56,57,58,59,60,61,62,63,64,4]
  (fun i v W=>match i with|0=>v=x.blk|1=>v=x.blk|2=>v=(x.blk,2)|3=>v=.slice (some ⟨b,off,none⟩) x.ty.fields.length c|4=>v=.pointer (some ⟨b,off,none⟩)|5=>v=.pointer (some ⟨b,off,none⟩)|6=>v=(f.tag:Int)|7=>v=.string ⟨(Bb f.tag).toArray⟩|8=>v=.string ⟨(60::Bb f.tag).toArray⟩|9=>v=.string ⟨(60::(Bb f.tag++[61])).toArray⟩|10=>v=pb|11=>v=x.blk|12=>v=x.blk|13=>v=(x.blk,2)|14=>v=.slice (some ⟨b,off,none⟩) x.ty.fields.length c|15=>v=.pointer (some ⟨b,off,none⟩)|16=>v=.pointer (some ⟨b,off+2,none⟩)|17=>v=.agg #[.string ⟨f.kind.signs.toArray⟩,.string ⟨f.kind.base.toArray⟩,.string ⟨f.kind.name.toArray⟩]|18=>v=.string ⟨(sl).toArray⟩|19=>v=.string ⟨(60::(Bb f.tag++61::sl)).toArray⟩|20=>v=.string ⟨(60::(Bb f.tag++61::(sl++[62]))).toArray⟩|21=>v=.string ⟨(60::(Bb f.tag++61::(sl++[62]))).toArray⟩|_=>True)
  (fun L U W=>Below W0 W0 W) ((Ap _ _).drew) ?_ ?_
 ·repeat (first|exact Ak.nil|(refine Ak.cons ?_ ?_;rotate_left))
  all_goals
   rintro L U W hL hpre HR Hdep K hK;have hB:=HR.o;have c2:=(hB.cell (p:=⟨x.blk,2,none⟩) Hx5.o).trans Y2.o;have c0:=(hB.cell (p:=⟨b,off,none⟩) Hb5.o).trans Y0.o;have c3:=(hB.cell (p:=⟨b,off+2,none⟩) Hb5.o).trans Y3.o;have c4:=(hB.cell (p:=⟨b,off+3,none⟩) Hb5.o).trans Y4.o;have c5:=(hB.cell (p:=⟨b,off+4,none⟩) Hb5.o).trans Y5.o;have c4':W.cell? ⟨b,off+2+1,none⟩=_:=c4;have c5':W.cell? ⟨b,off+2+1+1,none⟩=_:=c5;have c5'':W.cell? ⟨b,off+2+2,none⟩=_:=c5;first|(simp[Region.binds]at hpre;done)|simp[Region.binds]at hpre|clear hpre
  iterate 7
   ·exact ip
  ·exact jA
  ·exact iv
  ·exact iv
  iterate 8
   ·exact ip
  ·exact ju
  ·exact iv
  ·exact iv
  ·exact ip
 rintro L U W hL hφ hR;have e21:U 21=.string ⟨(60::(Bb f.tag++61::(sl++[62]))).toArray⟩:=hφ 21 aJ;simp only[e21];clear hφ;have Hb9:=Aa (Hbq.o.trans (hR.mono Hbq.o.size));clear hR;go_wp2_with fail;go_ret;exact⟨by rw[HF4.o];rfl,Hb9.o⟩
theorem Vh(p:Value)(S:List Ty)(n:Nat)(k:Kd)(w:World)(hk:Cq k)(h:¬(k.signs=[]/\k.base=[64])):
  Calls prog 90 #[p,Et k] w (Ja (Dt S (n+1) k) w):=by
 unfold Et;cases hs:k.signs with
 |cons c t=>
  have hc:=To hk hs;have hl:=hk.2.2;unfold Be at hl;rw[hs]at hl;rw[Q8 _ _ k c t hs hc];exact Qc9 p c t _ _ w hc (by simp at hl;omega)
 |nil=>
  have hb:k.base≠[64]:=fun hb=>h ⟨hs,hb⟩;rw[Pe _ _ k hs (Ps hk hs hb).2];exact Zu p k.base _ w (Ps hk hs hb).2
theorem Qdu(p:Value)(xs:List PT)(hok:∀x∈xs,Ft x.ty)(hS:Jl (Ag xs)):∀(n:Nat),n<=9->∀(k:Kd) (w:World),Tr w p xs->Cq k->Cc (Ag xs) k->Xi (Ag xs) n k ->
  Calls prog 90 #[p,Et k] w (Ja (Dt (Ag xs) (n+1) k) w):=by
 intro n;induction n with
 |zero=>
  intro _ k w hsc hk hr he;refine Vh p _ 0 k w hk (fun h=>?_);obtain⟨t,_,h2⟩:=he h.1 h.2;exact absurd h2 (by simp[Cg])
 |succ n ih=>
  intro hn k w hsc hk hr he;by_cases hsb:k.signs=[]/\k.base=[64]
  ·obtain⟨hs,hb⟩:=hsb;have h1:=hr hb;rw[Jp]at h1;cases hx:Fh xs k.name with
   |none=>rw[hx]at h1;cases h1
   |some x=>
    have hft:Bt (Ag xs) k.name=some x.ty:=(Gp hx).2.2;have hto:Ft x.ty:=hok _ (Gp hx).1;refine Qcr p xs hok (n+1) k w hsc hk hs hb x hx hn (fun h85 f fs hfs W hW=>?_);have hrf:Cc (Ag xs) f.kind:=hS x.ty (Cp hft).1 ew f d9;exact kM
  exact Vh p _ (n+1) k w hk hsb
theorem Qey(p:Value)(xs:List PT)(h:Gy (Ag xs))(k:Kd)(w:World)(hsc:Tr w p xs)(hk:Cq k)(hr:Cc (Ag xs) k):
  Calls prog 90 #[p,Et k] w (Ja (Xg (Ag xs) k) w):=
 Qdu p xs (fun x hx=>h.1.1 x.ty (ap hx)) h.2.1 9 (An _) k w hsc hk hr (Xe h hr)
theorem Yu(p:Value)(xs:List PT)(h:Gy (Ag xs))(f:Fd)(b o:Nat)(w:World)(hsc:Tr w p xs)(hf:w.rangeAt b o (Vp f))(hk:Cq f.kind)(hr:Cc (Ag xs) f.kind)(hl:f.given.length<=1000):
  Calls prog 60 #[p,.pointer (some ⟨b,o,none⟩)] w (Ja (J4 (Ag xs) f) w):=by
 have HF:=@Aa (J4 (Ag xs) f=if f.given=[]then Xg (Ag xs) f.kind else f.given) rfl;have Hs:=Aa (fun W (h1:Tr W p xs)=>Qey p xs h f.kind W h1 hk hr);have Hsc:=Aa hsc;unfold Et at Hs;have c2:w.cell? ⟨b,o+2,none⟩=f.kind.signs:=Ab hf 2 rfl;have c3:w.cell? ⟨b,o+3,none⟩=f.kind.base:=Ab hf 3 rfl;have c4:w.cell? ⟨b,o+4,none⟩=f.kind.name:=Ab hf 4 rfl;have c5:w.cell? ⟨b,o+5,none⟩=f.given:=Ab hf 5 rfl;have c3':w.cell? ⟨b,o+2+1,none⟩=f.kind.base:=c3;have c4':w.cell? ⟨b,o+2+1+1,none⟩=f.kind.name:=c4;have c4'':w.cell? ⟨b,o+2+2,none⟩=f.kind.name:=c4;clear h hk hr hsc hf;by_cases hg:f.given=[]
 ·have HF2:=Aa (HF.o.trans (if_pos hg));rw[hg]at c5;clear hg HF;go_enter func60,ntmps60;go_wp2_with fail;refine(Hs.o _ Hsc.o).mono ?_;rintro e w1 ⟨rfl,hb1⟩;go_wp2_with fail;go_ret;exact⟨by rw[HF2.o];rfl,hb1⟩
 have HF2:=Aa (HF.o.trans (if_neg hg));have t1:f.given.isEmpty=false:=by simpa using hg
 have t2:(!f.given.isEmpty)=true:=by simp[t1]
 clear hg HF;go_enter func60,ntmps60;go_wp2_with fail;go_ret;exact⟨by rw[HF2.o];rfl,Ap _ _⟩
def Se(w:World)(b:Nat)(p:Value)(R:Nat)(t:List UInt8)(bad:Bool)(W:World):Prop:=D9 w b p t bad W/\W.there R 0 4/\w.heap.size<=R/\R<W.heap.size
theorem Se.post{w W W':World}{b R:Nat}{p:Value}{t:List UInt8}{bad:Bool}(h:Se w b p R t bad W)(hb:Below W W W'):Se w b p R t bad W':=
 ⟨h.1.post hb,Aj h.2.1 h.2.2.2 hb,h.2.2.1,ac h.2.2.2 hb.size⟩
theorem Se.step{w W W':World}{b R:Nat}{p:Value}{t t':List UInt8}{bad bad':Bool}(h:Se w b p R t bad W)(hb:b<w.heap.size)(hs:D9 W b p t' bad' W'):Se w b p R t' bad' W':=
 ⟨h.1.trans hs,Ey h.2.1 hs.2 h.2.2.2 (by have:=h.2.2.1;simp;omega),h.2.2.1,ac h.2.2.2 hs.2.size⟩
theorem D9.app{w W W':World}{b:Nat}{p:Value}{t:List UInt8}{bad:Bool}{row:Option Nat}(h:D9 w b p t bad W)(hb:b<w.heap.size)(hg:W.grownBy W' row)(hr:∀k,row=some k->w.heap.size<=k):D9 w b p t bad W':=by
 have hn:∀c,c<w.heap.size->some c≠row:=fun c hc e=>by have:=hr c e.symm;omega
 obtain⟨⟨h0,h1,h2,h3,h4⟩,hg0⟩:=h;exact⟨⟨ac h0 hg.size,h1.grown h0 hg (hn b hb),hg.cell h2 (hn b hb),hg.cell h3 (hn b hb),hg.cell h4 (hn b hb)⟩,⟨hg.os.trans hg0.os,hg.tape.trans hg0.tape,hg.output.trans hg0.output,ad hg0.size hg.size,fun k hk hne=>(hg.block k (ac hk hg0.size) (hn k hk)).trans (hg0.block k hk hne)⟩⟩
theorem Se.app{w W W':World}{b R:Nat}{p:Value}{t:List UInt8}{bad:Bool}{row:Option Nat}(h:Se w b p R t bad W)(hb:b<w.heap.size)(hg:W.grownBy W' row)(hr:∀k,row=some k->R<k):Se w b p R t bad W':=
 ⟨h.1.app hb hg fun k e=>by have:=hr k e;have:=h.2.2.1;omega,Ey h.2.1 hg h.2.2.2 (fun e=>by have:=hr R e.symm;omega),h.2.2.1,ac h.2.2.2 hg.size⟩
theorem Se.fin{w W w9:World}{b R:Nat}{p:Value}{t:List UInt8}{bad:Bool}{v:Vl}{sl:Value}(F:Se w b p R t bad W)(hb:b<w.heap.size)(HS:w9=W.setCells R 0 (J8 v sl))(hv:Eh (fun c=>R<c) W sl v.kids):
  Eh (fun c=>w.heap.size<=c) w9 sl v.kids/\D9 w b p t bad w9/\w9.rangeAt R 0 (J8 v sl):=by
 subst HS;have:=F.2.2.1;exact⟨(hv.set (B:=R) aH _).mono fun c hc _=>by omega,F.1.set aH aH _,aa _ _ _ _ F.2.1⟩
def Qn6(w0 w:World)(b:Nat)(p:Value)(t:List UInt8)(N:Nat)(fs:List Fd)(r:Option ((Fd × Vl) × List UInt8))(e:Ending)(w':World):Prop:=
 ∃(v:Vl) (sl fp:Value) (t':List UInt8),e=.returned (.tuple #[Er v sl,fp])/\Eh (fun c=>w.heap.size<=c) w' sl v.kids/\D9 w b p t' r.isNone w'/\Bd v/\t'.length<=t.length/\(Bc v).length+t'.length<=t.length+8*N /\
  ((fp=.pointer none/\r=none)\/∃g x,Kl w0.heap.size w' fp (some g)/\v=Dr (g,x)/\Av fs g.tag=some g/\Bd x/\∀y,r=some y->y=((g,x),t'))
theorem Kl.via{B:Nat}{w0 W W':World}{v:Value}{o:Option Fd}(h:Kl B W v o)(h1:Below B w0 W)(h2:Below B w0 W'):Kl B W' v o:=by
 cases o with
 |none=>exact h
 |some f=>
  obtain⟨b,o,e,hb,hr⟩:=h;exact⟨b,o,e,hb,fun j u hu=>(h2.cell (p:=⟨b,o+j,none⟩) hb).trans ((h1.cell (p:=⟨b,o+j,none⟩) hb).symm.trans (hr j u hu))⟩
theorem Qe9(fs:List Fd)(t:List UInt8):Jb fs t=if Jq 200 t then(Av fs (Kb t)).map (fun f=>(f,t.dropWhile Bn))else none:=by
 unfold Jb;rw[Qdx];unfold Jq Kb;cases h:Dc (t.takeWhile Bn)with
 |none=>simp
 |some n=>
  have:=(Co.1 h).1;simp only[decide_eq_true_eq,this,if_true,Option.getD_some];by_cases h2:n<=200
  ·rw[if_pos h2,if_pos h2];cases Av fs n<;>rfl
  rw[if_neg h2,if_neg h2]
theorem Qij(K:Kd->List UInt8->Option (Vl × List UInt8))(fs:List Fd)(t:List UInt8):Do K fs t=match Av fs (Kb t)with
  |none=>none
  |some f=>match Bl [61] (t.dropWhile Bn) (!Jq 200 t)with
   |none=>none
   |some q=>match K f.kind q with|some (v,z)=>some ((f,v),z)|none=>none:=by
 unfold Do;rw[Qe9];simp only[Cv];cases Jq 200 t<;>cases Av fs (Kb t)<;>simp
 rfl
theorem Qmr(t:List UInt8)(h:Jq 200 t=true):(Bb (Kb t)).length+(t.dropWhile Bn).length=t.length:=by
 unfold Jq at h;unfold Kb;cases hd:Dc (t.takeWhile Bn)with
 |none=>rw[hd]at h;cases h
 |some n=>
  have e:=(Co.1 hd).2;simp only[Option.getD_some];rw[<-e,<-ah,List.takeWhile_append_dropWhile]
theorem Qfv(w0:World)(b N:Nat)(p:Value)(S:List Ty)(x:PT)(hx:So w0 x)(t:List UInt8)(w:World)(hw:Below w0 w0 w)(hb:w0.heap.size<=b)(bad:Bool)(h:Jn w b p t bad)(hl:t.length<=900)(hN:bad=false->t.length<=N)(hN2:N<=2000)
  (htg:∀f∈x.ty.fields,f.tag<=200) (H:∀f∈x.ty.fields,IvC w0 b p S N f.kind) (q:Option ((Fd × Vl) × List UInt8)) (hq:q=if bad then none else Do (Ar S 1000 N) x.ty.fields t):
  Calls prog 112 #[b,x.blk] w (Qn6 w0 w b p t N x.ty.fields q):=by
 have HQ:=Aa (hq.trans (by rw[Qij]));have Hnl:=Aa (Qmr t);have HS:=Aa h;have HW:=Aa hw;have hb0:=h.1;have hbn:¬(b=w.heap.size):=aH;have hnn:=Qda t;have hdr:=Qc5 Bn t;have Hn:=Aa (fun W (h:Jn W b p t bad)=>Ru b 200 p t bad W h aH aJ);have Hf:=Aa (fun W (hW:Below w0 w0 W)=>Qi w0 x hx (Kb t) W hW aH);have hxb:x.blk<w0.heap.size:=hx.1;clear h hw hq;obtain⟨b1,hb1⟩:∃b1,b1=(bad || !Jq 200 t):=⟨_,rfl⟩
 have Hb1:=Aa hb1;rw[<-hb1]at Hn;generalize t.dropWhile Bn=t1 at *;have hm:=Fo 61 t1 b1;have Hwt:=Aa (fun W (h:Jn W b p t1 b1)=>D2 b p t1 [61] b1 W h aH);have Hlt0:=Aa (fun r (h:Bl [61] t1 b1=some r)=>Mc h);clear hb1;cases hfo:Av x.ty.fields (Kb t)with
 |none=>
  rw[hfo]at Hf HQ;have hq0:=@Aa (q=none) (by have:=HQ.o;cases bad<;>simpa using this);generalize Kb t=n at *;generalize (Bl [61] t1 b1).getD t1=t2 at *;generalize (Bl [61] t1 b1).isNone=b2 at *;clear hfo HQ Hnl;go_enter func112,ntmps112;go_wp2_with fail;have F0:=@Aa (Se w b p w.heap.size t bad (w.alloc (.cells #[.int .u8 0,a6,.int .i64 0,.slice none 0 0] 44))) ⟨⟨HS.o.grow ((Ap _ _).alloc (An _) _),Cm ((Ap _ _).alloc (An _) _) _⟩,Bu w [.int .u8 0,a6,.int .i64 0,.slice none 0 0] _,An _,by simp⟩;refine(Hn.o _ F0.o.1.1).mono ?_;rintro e w2 ⟨rfl,hs2⟩;have F2:=Aa (F0.o.step hb0 hs2);clear hs2;go_wp2_with fail;refine(Hf.o _ (F2.o.1.env HW.o hb)).mono ?_;rintro e w3 ⟨fp,rfl,hfp,rfl⟩;have hfp':fp=.pointer none:=hfp;subst hfp';go_wp2_with fail;refine(Hwt.o _ F2.o.1.1).mono ?_;rintro e w4 ⟨rfl,hs4⟩;have F4:=Aa (F2.o.step hb0 hs4);clear hs4;have sb:=F4.o.1.1.2.1.live 2;have s0:=F4.o.1.1.1;have s2:=F4.o.1.1.2.2.2.2;have F5:=Aa (F4.o.step hb0 ⟨F4.o.1.1.setBad true,Ao _ b 2 (.bool true)⟩);go_wp2_with ((with_reducible refine Ad (op:=⟨none,.store 44 _ _,_,_,_,none⟩) rfl 44 _ _ rfl w 0 [.int .u8 0,a6,.int .i64 0,.slice none 0 0] ?_ ?_ ?_ ?_ ?_ ?_);rfl;rfl;(exact F5.o.2.1);kernel_rfl;(simp[Value.oneCell']);intro w9 HS9)
  have Z:=Se.fin (v:=Fm) (sl:=.slice none 0 0) F5.o hb0 HS9.o (Eh.nil _ _);refine aF (v:=.tuple #[.agg (J8 Fm (.slice none 0 0)).toArray,.pointer none]) (Am results112 _ _ w.heap.size _ _ _ rfl rfl Z.2.2 underlying44 rfl aL) rfl ?_;exact⟨Fm,.slice none 0 0,.pointer none,t2,rfl,Z.1,by rw[hq0.o];exact Z.2.1,Gb aJ aJ,by omega,by simp[Fm,Bc,Ed,Jg];omega,.inl ⟨rfl,hq0.o⟩⟩
 |some g=>
  obtain⟨hgt,hgm⟩:=Ax hfo;have hg2:=htg g hgm;have Hfg:=Aa (show Av x.ty.fields g.tag=some g by rw[hgt];exact hfo);rw[hfo]at Hf HQ;simp only at HQ;have HH:=Aa (H g hgm);cases hc:Bl [61] t1 b1 with
  |none=>
   have hq0:=Aa (show q=none from by
    rw[HQ.o];cases bad with
    |true=>rfl
    |false=>rw[if_neg aJ];rw[show Bl [61] t1 (!Jq 200 t)=none by have:=Hb1.o;rw[Bool.false_or]at this;rw[<-this];exact hc])
   rw[hc]at Hwt;simp only[Option.isNone_none,Option.getD_none]at Hwt;generalize Kb t=n at *;clear hfo HQ Hnl hc hm;subst hgt;obtain⟨b2,hb2⟩:∃b2,b2=true:=⟨_,rfl⟩
   rw[<-hb2]at Hwt;go_enter func112,ntmps112;go_wp2_with fail;have F0:=@Aa (Se w b p w.heap.size t bad (w.alloc (.cells #[.int .u8 0,a6,.int .i64 0,.slice none 0 0] 44))) ⟨⟨HS.o.grow ((Ap _ _).alloc (An _) _),Cm ((Ap _ _).alloc (An _) _) _⟩,Bu w [.int .u8 0,a6,.int .i64 0,.slice none 0 0] _,An _,by simp⟩;refine(Hn.o _ F0.o.1.1).mono ?_;rintro e w2 ⟨rfl,hs2⟩;have F2:=Aa (F0.o.step hb0 hs2);clear hs2;go_wp2_with fail;refine(Hf.o _ (F2.o.1.env HW.o hb)).mono ?_;rintro e w3 ⟨fp,rfl,hfp,rfl⟩;obtain⟨fb,fo,rfl,hfb,hfr⟩:=hfp;go_wp2_with fail;refine(Hwt.o _ F2.o.1.1).mono ?_;rintro e w4 ⟨rfl,hs4⟩;have F4:=Aa (F2.o.step hb0 hs4);clear hs4;have sb:=F4.o.1.1.2.1.live 2;have s0:=F4.o.1.1.1;have s2:=F4.o.1.1.2.2.2.2;have F5:=Aa (F4.o.step hb0 ⟨F4.o.1.1.setBad true,Ao _ b 2 (.bool true)⟩);subst hb2;go_wp2_with ((with_reducible refine Ad (op:=⟨none,.store 44 _ _,_,_,_,none⟩) rfl 44 _ _ rfl w 0 [.int .u8 0,a6,.int .i64 0,.slice none 0 0] ?_ ?_ ?_ ?_ ?_ ?_);rfl;rfl;(exact F5.o.2.1);kernel_rfl;(simp[Value.oneCell']);intro w9 HS9)
   have Z:=Se.fin (v:=Fm) (sl:=.slice none 0 0) F5.o hb0 HS9.o (Eh.nil _ _);refine aF (v:=.tuple #[.agg (J8 Fm (.slice none 0 0)).toArray,.pointer none]) (Am results112 _ _ w.heap.size _ _ _ rfl rfl Z.2.2 underlying44 rfl aL) rfl ?_;exact⟨Fm,.slice none 0 0,.pointer none,t1,rfl,Z.1,by rw[hq0.o];exact Z.2.1,Gb aJ aJ,by omega,by simp[Fm,Bc,Ed,Jg];omega,.inl ⟨rfl,hq0.o⟩⟩
  |some t2=>
   have hlt:=Hlt0.o t2 hc;have hbb:bad=false/\b1=false/\Jq 200 t=true:=by
    have h1:b1=false:=by
     cases b1 with
     |false=>rfl
     |true=>rw[Cv]at hc;simp at hc
    have h2:=Hb1.o;rw[h1]at h2;cases bad<;>cases hnb:Jq 200 t<;>simp[hnb]at h2 ⊢
    exact h1
   obtain⟨rfl,rfl,hnb⟩:=hbb;have hnl:=Hnl.o hnb;rw[hgt.symm]at hnl
   have hq0:=Aa (show q=(match Ar S 1000 N g.kind t2 with|some (v,z)=>some ((g,v),z)|none=>none)from by
    rw[HQ.o,if_neg aJ,hnb];show (match Bl [61] t1 false with|none=>none|some q=>match Ar S 1000 N g.kind q with|some (v,z)=>some ((g,v),z)|none=>none)=_;rw[hc])
   rw[hc]at Hwt;simp only[Option.isNone_some,Option.getD_some]at Hwt;have h2N:t2.length<N:=by have:=hN rfl;omega
   generalize Kb t=n at *;clear hfo HQ Hnl hc hm Hb1 hnb Hlt0;subst hgt;go_enter func112,ntmps112;go_wp2_with fail;have F0:=@Aa (Se w b p w.heap.size t false (w.alloc (.cells #[.int .u8 0,a6,.int .i64 0,.slice none 0 0] 44))) ⟨⟨HS.o.grow ((Ap _ _).alloc (An _) _),Cm ((Ap _ _).alloc (An _) _) _⟩,Bu w [.int .u8 0,a6,.int .i64 0,.slice none 0 0] _,An _,by simp⟩;refine(Hn.o _ F0.o.1.1).mono ?_;rintro e w2 ⟨rfl,hs2⟩;have F2:=Aa (F0.o.step hb0 hs2);clear hs2;go_wp2_with fail;refine(Hf.o _ (F2.o.1.env HW.o hb)).mono ?_;rintro e w3 ⟨fp,rfl,hfp,rfl⟩;obtain⟨fb,fo,rfl,hfb,hfr⟩:=hfp;go_wp2_with fail;refine(Hwt.o _ F2.o.1.1).mono ?_;rintro e w4 ⟨rfl,hs4⟩;have F4:=Aa (F2.o.step hb0 hs4);clear hs4;have HFR:=@Aa (Kl w0.heap.size w4 (.pointer (some ⟨fb,fo,none⟩)) (some g)) (Kl.via ⟨fb,fo,rfl,hfb,hfr⟩ (F2.o.1.env HW.o hb) (F4.o.1.env HW.o hb));have G4:=@Aa (w4.rangeAt fb fo (Vp g)) (by obtain⟨a1,a2,a3,_,a5⟩:=HFR.o;injection a3 with a3;injection a3 with a3;injection a3 with a3 a4;subst a3 a4;exact a5);have s2:=F4.o.1.1.2.2.2.2;have g2:=Ab G4.o 2 rfl;have g3:=Ab G4.o 3 rfl;have g4:=Ab G4.o 4 rfl;have g3':w4.cell? ⟨fb,fo+2+1,none⟩=g.kind.base:=g3;have g4':w4.cell? ⟨fb,fo+2+1+1,none⟩=g.kind.name:=g4;have g4'':w4.cell? ⟨fb,fo+2+2,none⟩=g.kind.name:=g4;clear hfr;have HV:=Aa (fun W (h1:Below w0 w0 W) (h2:Jn W b p t2 false)=>HH.o t2 false W h1 h2 aH (fun _=>h2N));unfold Et at HV;simp only[ao,if_false]at HV;go_wp2_with fail;refine(HV.o _ (F4.o.1.env HW.o hb) F4.o.1.1).mono ?_;rintro e w5 ⟨v,sl,t',rfl,hk5,hs5,hx5,hB5,hl5,hn5⟩;obtain⟨A7,c7,rfl⟩:=hk5.form;have F5:=Aa (F4.o.step hb0 hs5);have Hk5:=Aa hk5;have Hx5:=Aa hx5;have HB5:=Aa hB5;have hz4:=F4.o.2.2.2;clear hs5 hk5 hx5 hB5 g2 g3 g4 g3' g4' g4'' s2;unfold Er;go_wp2_with fail;obtain⟨W6,hW6⟩:∃W6,W6=w5.alloc (.cells #[.int .u8 (v.what.toNat:Int),v.text,(v.tag:Int),.slice A7 v.kids.length c7] 44):=⟨_,rfl⟩
   rw[<-hW6];have hb6:Below w5 w5 W6:=di;have F6:=Aa (F5.o.post hb6);have HP6:=Aa (HFR.o.via (F4.o.1.env HW.o hb) (F6.o.1.env HW.o hb));have X6:=@Aa (W6.rangeAt w5 0 [.int .u8 (v.what.toNat:Int),v.text,(v.tag:Int),.slice A7 v.kids.length c7]) (by rw[hW6];exact Bk w5 [.int .u8 (v.what.toNat:Int),v.text,(v.tag:Int),.slice A7 v.kids.length c7] _);have Hk6:=Aa (Hk5.o.after hb6);have hz6:w5.heap.size<W6.heap.size:=gz;have HW6:=Aa (F6.o.1.env HW.o hb);have hz5:=F5.o.2.2.2;generalize w5.heap.size=B7 at *;clear hW6 hb6;have D0:=@Aa (W6.cell? ⟨fb,fo,none⟩=(g.tag:Int)) (by obtain⟨a1,a2,a3,_,a5⟩:=HP6.o;injection a3 with a3;injection a3 with a3;injection a3 with a3 a4;subst a3 a4;simpa using Ab a5 0 rfl);refine Bq [32,33,34,35,36,37,38,39,999,5] aL aL aL (fun u=>by dsimp only[Bv,Bs,List.set,am,Nat.reduceAdd])
    (fun ix u W=>match ix with|0=>u=.pointer (some ⟨fb,fo,none⟩)|1=>u=.pointer (some ⟨fb,fo,none⟩)|2=>u=.pointer (some ⟨fb,fo,none⟩)|3=>u=(g.tag:Int)|4=>u=.agg #[.int .u8 (v.what.toNat:Int),v.text,(v.tag:Int),.slice A7 v.kids.length c7]|5=>∃c,u=.slice (some ⟨c,0,none⟩) 1 1|6=>∃c,u=.agg #[.int .u8 61,a6,(g.tag:Int),.slice (some ⟨c,0,none⟩) 1 1]|7=>u=.pointer (some ⟨fb,fo,none⟩)|9=>u=.pointer (some ⟨fb,fo,none⟩)|_=>True)
    (fun L U W=>(L 8=false->Below W6 W6 W)/\(L 5=true->L 8=false->∃W7,W=W7.alloc (.cells (Kt (v,.slice A7 v.kids.length c7)).toArray 44)/\U 5=.slice (some ⟨W7.heap.size,0,none⟩) 1 1/\Below W6 W6 W7)/\(L 6=true->U 6=.agg #[.int .u8 61,a6,(g.tag:Int),U 5]) /\
  (L 8=true->∃W7,W=(W7.alloc (.cells (Kt (v,.slice A7 v.kids.length c7)).toArray 44)).setCells w 0 [.int .u8 61,a6,(g.tag:Int),.slice (some ⟨W7.heap.size,0,none⟩) 1 1]/\Below W6 W6 W7)) (fun _ _=>True) (fun _ _ _ _ _ h=>h) (⟨fun _=>(Ap _ _).drew,fun h=>Bool.noConfusion h,fun h=>Bool.noConfusion h,fun h=>Bool.noConfusion h⟩) ?_ ?_
   ·repeat (first|exact Ak.nil|(refine Ak.cons ?_ ?_;rotate_left))
    all_goals
     rintro L U W hL hpre hR hun hdep K hK;have HR:=Aa hR;obtain⟨R1,R2,R3,R4⟩:=HR.o;have Hdep:=Aa hdep;clear hun hdep hR;first|(simp[Region.binds]at hpre;done)|simp[Region.binds]at hpre|clear hpre
    iterate 3
     ·exact ip
    ·have h6:L 6=false:=Az Hdep.o 6 3 rfl hL;have h8:L 8=false:=Az Hdep.o 8 6 rfl h6;have m0:=((R1 h8).cell (p:=⟨fb,fo,none⟩) (by have:=HW6.o.size;show fb<_;omega)).trans D0.o;exact lq
    ·have h5:L 5=false:=Az Hdep.o 5 4 rfl hL;have h6:L 6=false:=Az Hdep.o 6 5 rfl h5;have h8:L 8=false:=Az Hdep.o 8 6 rfl h6;have m0:=((R1 h8).cell (p:=⟨B7,0,none⟩) hz6).trans (X6.o 0 _ rfl);have m1:=((R1 h8).cell (p:=⟨B7,1,none⟩) hz6).trans (X6.o 1 _ rfl);have m2:=((R1 h8).cell (p:=⟨B7,2,none⟩) hz6).trans (X6.o 2 _ rfl);have m3:=((R1 h8).cell (p:=⟨B7,3,none⟩) hz6).trans (X6.o 3 _ rfl);exact lq
    ·have h6:L 6=false:=Az Hdep.o 6 5 rfl hL;have h8:L 8=false:=Az Hdep.o 8 6 rfl h6;have hba:Below W W (W.alloc (.cells (Kt (v,.slice A7 v.kids.length c7)).toArray 44)):=(Ap _ _).alloc (An _) _;have u4:=hpre.2;go_simp;exact hK (.slice (W,0) 1 1) _ _ ⟨W.heap.size,rfl⟩ Ac ⟨fun _=>(R1 h8).trans (hba.mono (R1 h8).size),fun _ _=>⟨W,rfl,rfl,R1 h8⟩,fun h=>absurd (h6.symm.trans aQ) aJ,fun h=>absurd (h8.symm.trans aQ) aJ⟩ aI
    ·obtain⟨c,u5⟩:=hpre.2.2;have u3:=hpre.1.2;go_simp;exact hK (.agg #[.int .u8 61,a6,(g.tag:Int),U 5]) _ _ ⟨c,by rw[u5]⟩ Ac ⟨R1,R2,fun _=>rfl,fun h=>R4 aQ⟩ (by simp[Act.put,u3,u5])
    ·exact ip
    ·obtain⟨⟨l6,_⟩,_⟩:=hpre;have u6:=R3 l6;have l5:L 5=true:=by
      cases h5:L 5 with
      |true=>rfl
      |false=>exact absurd (l6.symm.trans (Az Hdep.o 6 5 rfl h5)) aJ
     obtain⟨W7,rfl,u5,hb7⟩:=R2 l5 hL;rw[u5]at u6;rw[if_pos cx];refine wp_store_mid 44 _ _ rfl w 0 ([.int .u8 61,a6,(g.tag:Int),.slice (some ⟨W7.heap.size,0,none⟩) 1 1]:List Value).toArray rfl u6 ((F6.o.post hb7).post ((Ap _ _).alloc (An _) _)).2.1 aL bh ?_;exact hK undef _ _ Ac Ac ⟨fun h=>by simp at h,fun _ h=>by simp at h,fun _=>by show U 6=.agg #[.int .u8 61,a6,(g.tag:Int),U 5];rw[u5];exact u6,fun _=>⟨W7,rfl,hb7⟩⟩ rfl
    ·clear R1 R2 R3 R4;go_simp;exact hK (.pointer (some ⟨fb,fo,none⟩)) _ _ rfl Ac HR.o aI
   rintro L U W hL hφ hR;have hφ9:=hφ 9 aJ;clear hφ;have e9:U 9=.pointer (some ⟨fb,fo,none⟩):=hφ9;obtain⟨_,_,_,h4⟩:=hR;obtain⟨W7,rfl,hb7⟩:=h4 (hL 8 aJ);clear hL h4;simp only[e9];clear hφ9;go_wp2_with fail;have F7:=Aa (F6.o.post hb7);have Hk7:=Aa (Hk6.o.after hb7);have hz7:=F7.o.2.2.2;have Z:=Se.fin (v:=Dr (g,v)) (sl:=.slice (some ⟨W7.heap.size,0,none⟩) 1 1) (F7.o.post ((Ap _ _).alloc (An _) (.cells (Kt (v,.slice A7 v.kids.length c7)).toArray 44))) hb0 rfl (Hk7.o.one (T:=44) (fun c hc _=>by omega) aH);have HPz:=HP6.o.via (F6.o.1.env HW.o hb) (Z.2.1.env HW.o hb);refine aF (v:=.tuple #[.agg (J8 (Dr (g,v)) (.slice (some ⟨W7.heap.size,0,none⟩) 1 1)).toArray,.pointer (some ⟨fb,fo,none⟩)]) (Am results112 _ _ w.heap.size _ _ _ rfl rfl Z.2.2 underlying44 rfl aL) rfl ?_;have hx9:=Hx5.o;refine⟨Dr (g,v),_,_,t',rfl,Z.1,?_,.mk (show g.tag<=1000000000 by omega) fg aK (fun y hy=>by rw[aq]at hy;subst hy;exact HB5.o),by omega,by rw[Jv];simp only;omega,.inr ⟨g,v,HPz,rfl,Hfg.o,HB5.o,?_⟩⟩
   ·have e:q.isNone=(Ar S 1000 N g.kind t2).isNone:=by rw[hq0.o];cases Ar S 1000 N g.kind t2<;>rfl
    rw[e];exact Z.2.1
   intro y hy;rw[hq0.o]at hy;cases hr:Ar S 1000 N g.kind t2 with
   |none=>rw[hr]at hy;cases hy
   |some z=>
    obtain⟨z1,z2⟩:=z;rw[hr]at hy;simp only[aj]at hy;obtain⟨e1,e2⟩:=hx9 _ hr;simp only at e1 e2;rw[<-hy,e1,e2]
structure Vb(B:Nat)(W:World)(h0 h1 h2 h3:Value):Prop where
 lt:B<W.heap.size
 bk:Rj W B
 c0:W.cell? (B,0)=some h0
 c1:W.cell? (B,1)=some h1
 c2:W.cell? (B,2)=some h2
 c3:W.cell? (B,3)=some h3
theorem Vb.new{w:World}{h0 h1 h2 h3:Value}{T:TypeId}:Vb w.heap.size (w.alloc (.cells #[h0,h1,h2,h3] T)) h0 h1 h2 h3:=⟨by simp,Rj.new _ _ _,by simp,by simp,by simp,by simp⟩
theorem Vb.grown{B:Nat}{W W':World}{h0 h1 h2 h3:Value}{row:Option Nat}(h:Vb B W h0 h1 h2 h3)(hg:W.grownBy W' row)(hn:some B≠row):Vb B W' h0 h1 h2 h3:=
 ⟨ac h.lt hg.size,h.bk.grown h.lt hg hn,hg.cell h.c0 hn,hg.cell h.c1 hn,hg.cell h.c2 hn,hg.cell h.c3 hn⟩
theorem Vb.after{B:Nat}{W W':World}{h0 h1 h2 h3:Value}(h:Vb B W h0 h1 h2 h3)(hb:Below W W W'):Vb B W' h0 h1 h2 h3:=h.grown (Cm hb none) aK
theorem Vb.set2{B:Nat}{W:World}{h0 h1 h2 h3:Value}(h:Vb B W h0 h1 h2 h3)(v:Value):Vb B (W.setCell ⟨B,2,none⟩ v) h0 h1 v h3:=by
 have hf:=h.bk.live 2;exact⟨by simpa using h.lt,h.bk.set _,by simp[go_sem,h.c0],by simp[go_sem,h.c1],by simp[go_sem,h.c2,hf],by simp[go_sem,h.c3]⟩
theorem Vb.set3{B:Nat}{W:World}{h0 h1 h2 h3:Value}(h:Vb B W h0 h1 h2 h3)(v:Value):Vb B (W.setCell ⟨B,3,none⟩ v) h0 h1 h2 v:=by
 have hf:=h.bk.live 3;exact⟨by simpa using h.lt,h.bk.set _,by simp[go_sem,h.c0],by simp[go_sem,h.c1],by simp[go_sem,h.c2],by simp[go_sem,h.c3,hf]⟩
theorem Se.init{w:World}{b:Nat}{p:Value}{t:List UInt8}{bad:Bool}(h:Jn w b p t bad){T:TypeId}:Se w b p w.heap.size t bad (w.alloc (.cells #[.int .u8 0,a6,.int .i64 0,.slice none 0 0] T)):=
 ⟨⟨h.grow ((Ap _ _).alloc (An _) _),Cm ((Ap _ _).alloc (An _) _) _⟩,Bu w [.int .u8 0,a6,.int .i64 0,.slice none 0 0] _,An _,by simp⟩
theorem Qm5(fs:List Fd)(t:List UInt8)(t1 t2:List UInt8)(b1 b2:Bool)(h1:t1=(Bl [35] t false).getD t)(hb1:b1=(Bl [35] t false).isNone)(h2:t2=t1.dropWhile Bn)(hb2:b2=(b1 || !Jq 200 t1)):
  (match Au 35 t with
   |none=>none
   |some r=>match Jb fs r with|some (f,q)=>some (Vl.mk 69 [] f.tag [],q)|none=>none)=if b2 || (Av fs (Kb t1)).isNone then none else some (.mk 69 [] (Kb t1) [],t2):=by
 rw[Cv]at h1 hb1;simp only[ao,if_false]at h1 hb1;cases hy:Au 35 t with
 |none=>rw[hy]at hb1;simp at hb1;subst hb1 hb2;simp
 |some r=>
  rw[hy]at h1 hb1;simp at h1 hb1;subst h1 hb1 h2 hb2;simp only[Qe9];cases Jq 200 t1 with
  |false=>simp
  |true=>
   simp only[if_true,Bool.false_or,Bool.not_true];cases hf:Av fs (Kb t1)with
   |none=>simp
   |some f=>have:=(Ax hf).1;simp[this]
theorem Qk7(w0:World)(b N:Nat)(p:Value)(S:List Ty)(x:PT)(hx:So w0 x)(h9:x.ty.sort=69)(t:List UInt8)(w:World)(hw:Below w0 w0 w)(hb:w0.heap.size<=b)(h:Jn w b p t false)(hl:t.length<=900)
  (q:Option (Vl × List UInt8)) (hq:q=Mg S (Ar S 1000 N) x.ty t):
  Calls prog 89 #[b,x.blk] w (Nc w b p t (N+1) q):=by
 have HQ:=Aa (hq.trans (by unfold Mg;rw[if_pos h9]));have HS:=Aa h;have HW:=Aa hw;have hb0:=h.1;have hx0:=hx.1;have x0:=(hw.cell (p:=⟨x.blk,0,none⟩) hx0).trans hx.2.2.1;have hxw:x.blk<w.heap.size:=gu;have hxn:¬(x.blk=w.heap.size):=gu;have hxn2:¬(x.blk=w.heap.size+1):=gu;rw[h9]at x0;have x0':w.cell? (x.blk,0)=some (.int .u8 69):=x0;clear x0;have hm:=Fo 35 t false;have Hwt:=Aa (fun W (h:Jn W b p t false)=>D2 b p t [35] false W h aH);obtain⟨t1,ht1⟩:∃t1,t1=(Bl [35] t false).getD t:=⟨_,rfl⟩
 obtain⟨b1,hb1⟩:∃b1,b1=(Bl [35] t false).isNone:=⟨_,rfl⟩
 have HQ2:=Aa (HQ.o.trans (Qm5 x.ty.fields t t1 (t1.dropWhile Bn) b1 (b1 || !Jq 200 t1) ht1 hb1 rfl rfl));rw[<-ht1]at hm;rw[<-ht1,<-hb1]at Hwt;have Hn:=Aa (fun W (h:Jn W b p t1 b1)=>Ru b 200 p t1 b1 W h aH aJ);have hnn:=Qda t1;have hdr:=Qc5 Bn t1;have Hf:=Aa (fun W (hW:Below w0 w0 W)=>Qi w0 x hx (Kb t1) W hW aH);have hdl:=Dk 5 (Kb t1) eH;generalize (b1 || !Jq 200 t1)=b2 at *;generalize t1.dropWhile Bn=t2 at *;generalize Kb t1=n at *;clear ht1 hb1 h hw hq h9 HQ;go_enter func89,ntmps89;go_wp2_with fail;have F1:=Aa ((Se.init HS.o (T:=44)).post ((Ap _ _).alloc (An _) (.cells #[.int .u8 69,a6,.int .i64 0,.slice none 0 0] 44)));have V1:=@Aa (Vb (w.heap.size+1) _ _ _ _ _) (by have:=Vb.new (w:=w.alloc (.cells #[.int .u8 0,a6,.int .i64 0,.slice none 0 0] 44)) (h0:=.int .u8 69) (h1:=a6) (h2:=.int .i64 0) (h3:=.slice none 0 0) (T:=44);simpa using this);refine(Hwt.o _ F1.o.1.1).mono ?_;rintro e w2 ⟨rfl,hs2⟩;have F2:=Aa (F1.o.step hb0 hs2);have V2:=Aa (V1.o.grown hs2.2 aM);clear hs2 F1 V1;go_wp2_with fail;refine(Hn.o _ F2.o.1.1).mono ?_;rintro e w3 ⟨rfl,hs3⟩;have F3:=Aa (F2.o.step hb0 hs3);have V3:=Aa (V2.o.grown hs3.2 aM);clear hs3 F2 V2;have c2:=V3.o.c2;have f2:=V3.o.bk.live 2;have l2:=V3.o.lt;go_wp2_with fail;have F4:=Aa (F3.o.app hb0 (Ao w3 (w.heap.size+1) 2 (n:Int)) (fun k e=>by injection e with e;omega));have V4:=Aa (V3.o.set2 (n:Int));refine(Hf.o _ (F4.o.1.env HW.o hb)).mono ?_;rintro e w4 ⟨fp,rfl,hfp,rfl⟩;cases hfo:Av x.ty.fields n with
 |some g=>
  rw[hfo]at hfp HQ2;obtain⟨fb,fo,rfl,_,_⟩:=hfp;have d0:=V4.o.c0;have d1:=V4.o.c1;have d2:=V4.o.c2;have d3:=V4.o.c3;clear hfo c2 f2 l2;generalize w3.setCell ⟨w.heap.size+1,2,none⟩ (n:Int)=w4 at *;go_wp2_with ((with_reducible refine Ad (op:=⟨none,.store 44 _ _,_,_,_,none⟩) rfl 44 _ _ rfl w 0 [.int .u8 69,a6,(n:Int),.slice none 0 0] ?_ ?_ ?_ ?_ ?_ ?_);rfl;rfl;(exact F4.o.2.1);kernel_rfl;(simp[Value.oneCell']);intro w9 HS9)
  have Z:=Se.fin (v:=.mk 69 [] n []) (sl:=.slice none 0 0) F4.o hb0 HS9.o (Eh.nil _ _);refine aF (v:=.agg (J8 (.mk 69 [] n []) (.slice none 0 0)).toArray) (Bj results89 _ _ w.heap.size _ _ rfl Z.2.2 underlying44 rfl aL) rfl ⟨.mk 69 [] n [],_,t2,rfl,Z.1,?_,?_,Gb aH aJ,by omega,by simp[Bc,Ed,Jg];omega⟩
  ·rw[HQ2.o];cases b2<;>exact Z.2.1
  rw[HQ2.o];cases b2<;>simp
 |none=>
  rw[hfo]at hfp HQ2;have hfp':fp=.pointer none:=hfp;subst hfp';have s2:=F4.o.1.1.2.2.2.2;have sb:=F4.o.1.1.2.1.live 2;have s0:=F4.o.1.1.1;clear hfo c2 f2 l2;generalize w3.setCell ⟨w.heap.size+1,2,none⟩ (n:Int)=w4 at *;have F5:=Aa (F4.o.step hb0 ⟨F4.o.1.1.setBad true,Ao _ b 2 (.bool true)⟩);have V5:=Aa (V4.o.grown (Ao w4 b 2 (.bool true)) aM);have d0:=V5.o.c0;have d1:=V5.o.c1;have d2:=V5.o.c2;have d3:=V5.o.c3;go_wp2_with ((with_reducible refine Ad (op:=⟨none,.store 44 _ _,_,_,_,none⟩) rfl 44 _ _ rfl w 0 [.int .u8 69,a6,(n:Int),.slice none 0 0] ?_ ?_ ?_ ?_ ?_ ?_);rfl;rfl;(exact F5.o.2.1);kernel_rfl;(simp[Value.oneCell']);intro w9 HS9)
  have Z:=Se.fin (v:=.mk 69 [] n []) (sl:=.slice none 0 0) F5.o hb0 HS9.o (Eh.nil _ _);refine aF (v:=.agg (J8 (.mk 69 [] n []) (.slice none 0 0)).toArray) (Bj results89 _ _ w.heap.size _ _ rfl Z.2.2 underlying44 rfl aL) rfl ⟨.mk 69 [] n [],_,t2,rfl,Z.1,?_,?_,Gb aH aJ,by omega,by simp[Bc,Ed,Jg];omega⟩
  ·rw[HQ2.o];simpa using Z.2.1
  rw[HQ2.o];simp
def Qlc(q1:Option ((Fd × Vl) × List UInt8))(t2:List UInt8):Option (Vl × List UInt8):=match q1 with
 |none=>none
 |some (p,_)=>if (Bl [62] t2 false).isNone then none else some (.mk 85 [] p.1.tag [p.2],(Bl [62] t2 false).getD t2)
theorem Qm0(K:Kd->List UInt8->Option (Vl × List UInt8))(fs:List Fd)(t t1 t2:List UInt8)(b1:Bool)(q1:Option ((Fd × Vl) × List UInt8))(h1:t1=(Bl [60] t false).getD t)(hb1:b1=(Bl [60] t false).isNone)(h2:q1=if b1 then none else Do K fs t1)(h3:∀y,q1=some y->t2=y.2):
  (match Au 60 t with
   |none=>none
   |some r=>match Do K fs r with
    |none=>none
    |some (p,q)=>match Au 62 q with|some z=>some (Vl.mk 85 [] p.1.tag [p.2],z)|none=>none) =
  Qlc q1 t2:=by
 rw[Cv]at h1 hb1;simp only[ao,if_false]at h1 hb1;cases hy:Au 60 t with
 |none=>rw[hy]at hb1;simp at hb1;subst hb1;simp at h2;subst h2;simp[Qlc]
 |some r=>
  rw[hy]at h1 hb1;simp at h1 hb1;subst h1 hb1;simp only[ao,if_false]at h2;subst h2;simp only;cases hk:Do K fs t1 with
  |none=>simp[Qlc]
  |some y=>
   obtain⟨p,q⟩:=y;obtain rfl:=h3 _ hk;simp only[Qlc,Cv,ao,if_false];cases Au 62 t2<;>simp
structure Qfu(w0 w:World)(b B X:Nat)(p:Value)(t:List UInt8)(bad:Bool)(g:Fd)(x:Vl)(fp:Value)(sl h2 h3:Value)(W:World):Prop where
 f:Se w b p w.heap.size t bad W
 v:Vb B W (.int .u8 85) a6 h2 h3
 xr:W.rangeAt X 0 [.int .u8 61,a6,(g.tag:Int),sl]
 k:Eh (fun c=>B<c) W sl [x]
 p:Kl w0.heap.size W fp (some g)
 lw:Below w0 w0 W
theorem Qfu.put{w0 w W:World}{b B X o:Nat}{p:Value}{t:List UInt8}{bad:Bool}{g:Fd}{x:Vl}{fp sl h2 h3 h2' h3':Value}(h:Qfu w0 w b B X p t bad g x fp sl h2 h3 W)(u:Value)(hV:Vb B (W.setCell ⟨B,o,none⟩ u) (.int .u8 85) a6 h2' h3')
  (hb:b<w.heap.size) (hB:w.heap.size<B) (hX:B<X) (h0:w0.heap.size<=w.heap.size):Qfu w0 w b B X p t bad g x fp sl h2' h3' (W.setCell ⟨B,o,none⟩ u):=by
 have hg:=Ao W B o u;have hlw:Below w0 w0 (W.setCell ⟨B,o,none⟩ u):=h.lw.grown hg h.lw.size fun k hk=>by injection hk with hk;omega
 exact⟨h.f.app hb hg (fun k e=>by injection e with e;omega),hV,Cz h.xr hg bQ,h.k.grown hg (fun c hc e=>by injection e with e;omega),h.p.via h.lw hlw,hlw⟩
theorem Qfu.drew{w0 w W:World}{b B X:Nat}{p:Value}{t:List UInt8}{bad:Bool}{g:Fd}{x:Vl}{fp sl h2 h3:Value}(h:Qfu w0 w b B X p t bad g x fp sl h2 h3 W):Qfu w0 w b B X p t bad g x fp sl h2 h3 W.drew:=
 ⟨h.f.post (Ap _ _).drew,h.v.after (Ap _ _).drew,h.xr,h.k.after (Ap _ _).drew,h.p.via h.lw h.lw.drew,h.lw.drew⟩
theorem Qk6(w0:World)(b N:Nat)(p:Value)(S:List Ty)(x:PT)(hx:So w0 x)(h5:x.ty.sort=85)(t:List UInt8)(w:World)(hw:Below w0 w0 w)(hb:w0.heap.size<=b)(h:Jn w b p t false)(hl:t.length<=900)(hN:t.length<=N)(hN2:N<=2000)
  (htg:∀f∈x.ty.fields,f.tag<=200) (H:∀f∈x.ty.fields,IvC w0 b p S N f.kind) (q:Option (Vl × List UInt8)) (hq:q=Mg S (Ar S 1000 N) x.ty t):
  Calls prog 89 #[b,x.blk] w (Nc w b p t (N+1) q):=by
 have HQ:=Aa (hq.trans (by unfold Mg;rw[if_neg dS,if_pos h5]));have HS:=Aa h;have HW:=Aa hw;have hb0:=h.1;have hx0:=hx.1;have hww:=hw.size;have x0:=(hw.cell (p:=⟨x.blk,0,none⟩) hx0).trans hx.2.2.1;have hxw:x.blk<w.heap.size:=aH;have hxn:¬(x.blk=w.heap.size):=aH;have hxn2:¬(x.blk=w.heap.size+1):=aH;rw[h5]at x0;have x0':w.cell? (x.blk,0)=some (.int .u8 85):=x0;clear x0;have hm:=Fo 60 t false;have Hwt:=Aa (fun W (h:Jn W b p t false)=>D2 b p t [60] false W h aH);obtain⟨t1,ht1⟩:∃t1,t1=(Bl [60] t false).getD t:=⟨_,rfl⟩
 obtain⟨b1,hb1⟩:∃b1,b1=(Bl [60] t false).isNone:=⟨_,rfl⟩
 obtain⟨q1,hq1⟩:∃q1,q1=if b1 then none else Do (Ar S 1000 N) x.ty.fields t1:=⟨_,rfl⟩
 have HQ2:=Aa (fun t2 h3=>HQ.o.trans (Qm0 (Ar S 1000 N) x.ty.fields t t1 t2 b1 q1 ht1 hb1 hq1 h3));rw[<-ht1]at hm;rw[<-ht1,<-hb1]at Hwt;have Hfd:=Aa (fun W (h1:Below w0 w0 W) (h2:Jn W b p t1 b1)=>Qfv w0 b N p S x hx t1 W h1 hb b1 h2 aH (fun _=>by omega) hN2 htg H q1 hq1);clear ht1 hb1 h hw hq h5 HQ hq1 H;go_enter func89,ntmps89;go_wp2_with fail;have F1:=Aa ((Se.init HS.o (T:=44)).post ((Ap _ _).alloc (An _) (.cells #[.int .u8 85,a6,.int .i64 0,.slice none 0 0] 44)));have V1:=@Aa (Vb (w.heap.size+1) _ _ _ _ _) (by have:=Vb.new (w:=w.alloc (.cells #[.int .u8 0,a6,.int .i64 0,.slice none 0 0] 44)) (h0:=.int .u8 85) (h1:=a6) (h2:=.int .i64 0) (h3:=.slice none 0 0) (T:=44);simpa using this);refine(Hwt.o _ F1.o.1.1).mono ?_;rintro e w2 ⟨rfl,hs2⟩;have F2:=Aa (F1.o.step hb0 hs2);have V2:=Aa (V1.o.grown hs2.2 aM);have hz2:w.heap.size+2<=w2.heap.size:=by have:=hs2.2.size;simp at this;omega
 clear hs2 F1 V1;go_wp2_with fail;refine(Hfd.o _ (F2.o.1.env HW.o hb) F2.o.1.1).mono ?_;rintro e w3 ⟨v,sl,fp,t2,rfl,hk3,hs3,hB3,hl3,hn3,hcase⟩;obtain⟨A7,c7,rfl⟩:=hk3.form;have F3:=Aa (F2.o.step hb0 hs3);have V3:=Aa (V2.o.grown hs3.2 aM);have Hk3:=Aa hk3;have hz3:w2.heap.size<=w3.heap.size:=hs3.2.size;clear hs3 F2 V2 hk3;unfold Er;have hm3:=Fo 62 t2 q1.isNone;have Hwt2:=Aa (fun W (h:Jn W b p t2 q1.isNone)=>D2 b p t2 [62] q1.isNone W h aH);rcases hcase with⟨rfl,hq1⟩|⟨g,y,hfp,rfl,hfg,hBy,hy⟩
 ·have HQ3:=@Aa (q=none) (by rw[HQ2.o t2 (by rw[hq1];simp),hq1];rfl);have hw3:Bl [62] t2 q1.isNone=none:=by rw[hq1,Cv];rfl
  rw[hw3]at Hwt2;simp only[Option.getD_none,Option.isNone_none]at Hwt2;clear hq1 hw3 HQ2 hB3;go_wp2_with fail;have F4:=Aa (F3.o.post ((Ap w3.heap.size w3).alloc (An _) (.cells #[.int .u8 (v.what.toNat:Int),v.text,(v.tag:Int),.slice A7 v.kids.length c7] 44)));have V4:=Aa (V3.o.after ((Ap w3.heap.size w3).alloc (An _) (.cells #[.int .u8 (v.what.toNat:Int),v.text,(v.tag:Int),.slice A7 v.kids.length c7] 44)));refine(Hwt2.o _ F4.o.1.1).mono ?_;rintro e w5 ⟨rfl,hs5⟩;have F5:=Aa (F4.o.step hb0 hs5);have V5:=Aa (V4.o.grown hs5.2 aM);have d0:=V5.o.c0;have d1:=V5.o.c1;have d2:=V5.o.c2;have d3:=V5.o.c3;clear hs5 F4 V4;go_wp2_with ((with_reducible refine Ad (op:=⟨none,.store 44 _ _,_,_,_,none⟩) rfl 44 _ _ rfl w 0 [.int .u8 85,a6,.int .i64 0,.slice none 0 0] ?_ ?_ ?_ ?_ ?_ ?_);rfl;rfl;(exact F5.o.2.1);kernel_rfl;(simp[Value.oneCell']);intro w9 HS9)
  have Z:=Se.fin (v:=.mk 85 [] 0 []) (sl:=.slice none 0 0) F5.o hb0 HS9.o (Eh.nil _ _);exact aF (v:=.agg (J8 (.mk 85 [] 0 []) (.slice none 0 0)).toArray) (Bj results89 _ _ w.heap.size _ _ rfl Z.2.2 underlying44 rfl aL) rfl ⟨.mk 85 [] 0 [],_,t2,rfl,Z.1,by rw[HQ3.o];exact Z.2.1,by rw[HQ3.o];simp,Gb aJ aJ,by omega,by simp[Bc,Ed,Jg,Aw,Ff];omega⟩
 have HQ3:=Aa (HQ2.o t2 (fun z hz=>by rw[hy z hz]));obtain⟨t4,ht4⟩:∃t4,t4=(Bl [62] t2 q1.isNone).getD t2:=⟨_,rfl⟩
 obtain⟨b4,hb4⟩:∃b4,b4=(Bl [62] t2 q1.isNone).isNone:=⟨_,rfl⟩
 rw[<-ht4,<-hb4]at Hwt2;rw[<-ht4]at hm3
 have HQ4:=Aa (show q=if b4 then none else some (.mk 85 [] g.tag [y],t4)from by
  rw[HQ3.o];cases hq1:q1 with
  |none=>rw[hq1,Cv]at hb4;simp at hb4;subst hb4;rfl
  |some z=>
   obtain⟨z1,z2⟩:=z;have:=hy _ hq1;injection this with e1 e2;subst e1;rw[hq1]at ht4 hb4;unfold Qlc;simp only;rw[ht4,hb4];rfl)
 have hpl:=Jv (g,y);obtain⟨fb,fo,rfl,hfb,hfr⟩:=hfp;have HP3:=@Aa (Kl w0.heap.size w3 (.pointer (some ⟨fb,fo,none⟩)) (some g)) ⟨fb,fo,rfl,hfb,hfr⟩;have hgt:=htg g (Ax hfg).2;have HBy:=Aa hBy;clear ht4 hb4 HQ2 HQ3 hB3 hfr hy hBy hfg;simp only[Dr,Vl.what,Vl.text,Vl.tag,Vl.kids,List.length_singleton]at Hk3 hn3 ⊢;go_wp2_with fail;obtain⟨W4,hW4⟩:∃W4,W4=w3.alloc (.cells #[.int .u8 61,a6,(g.tag:Int),.slice A7 1 c7] 44):=⟨_,rfl⟩
 have hb4:Below w3 w3 W4:=by rw[hW4];exact(Ap _ _).alloc (An _) _
 have X4:=@Aa (W4.rangeAt w3 0 [.int .u8 61,a6,(g.tag:Int),.slice A7 1 c7]) (by rw[hW4];exact Bk w3 [.int .u8 61,a6,(g.tag:Int),.slice A7 1 c7] _);have hz4:w3.heap.size<W4.heap.size:=by rw[hW4];simp
 have F4:=Aa (F3.o.post hb4);have V4:=Aa (V3.o.after hb4);have Hk4:=Aa (Hk3.o.after hb4);have HP4:=Aa (HP3.o.via (F3.o.1.env HW.o hb) (F4.o.1.env HW.o hb));have hW4':w3.alloc (.cells #[.int .u8 ((61:UInt8).toNat:Int),([]:List UInt8),(g.tag:Int),.slice A7 1 c7] 44)=W4:=hW4.symm;first|rw[<-hW4]|rw[hW4']
 generalize w3.heap.size=BX at *;clear hW4 hW4' hb4 F3 V3 Hk3 HP3;refine(Hwt2.o _ F4.o.1.1).mono ?_;rintro e w5 ⟨rfl,hs5⟩;have F5:=Aa (F4.o.step hb0 hs5);have V5:=Aa (V4.o.grown hs5.2 aM)
 have U5:=Aa (show Qfu w0 w b (w.heap.size+1) BX p t4 b4 g y (.pointer (some ⟨fb,fo,none⟩)) (.slice A7 1 c7) (.int .i64 0) (.slice none 0 0) w5 from
  ⟨F5.o,V5.o,Cz X4.o hs5.2 aM,(Hk4.o.grown hs5.2 (fun c hc e=>by injection e with e;omega)).mono (fun c hc _=>by omega),HP4.o.via (F4.o.1.env HW.o hb) (F5.o.1.env HW.o hb),F5.o.1.env HW.o hb⟩)
 clear hs5 F4 V4 X4 Hk4 HP4;go_wp2_with fail;refine Jo [107,108,109,110,111,112,113,999,114,998]
  (fun ix v W=>match ix with|0=>v=.pointer (some ⟨fb,fo,none⟩)|1=>v=.pointer (some ⟨fb,fo,none⟩)|2=>v=.pointer (some ⟨fb,fo,none⟩)|3=>v=(g.tag:Int)|4=>v=(BX,3)|5=>v=.slice A7 1 c7|6=>v=(w,1,2)|8=>v=(w,1,3)|_=>True)
  (fun L U W=>Qfu w0 w b (w.heap.size+1) BX p t4 b4 g y (.pointer (some ⟨fb,fo,none⟩)) (.slice A7 1 c7) (if L 7=true then (g.tag:Int)else .int .i64 0) (if L 9=true then .slice A7 1 c7 else .slice none 0 0) W) (by simpa using U5.o.drew) ?_ ?_
 ·repeat (first|exact Ak.nil|(refine Ak.cons ?_ ?_;rotate_left))
  all_goals
   rintro L U W hL hpre HR Hdep K hK;have hU:=HR.o;have m3:=hU.xr 3 _ rfl;simp only[am]at m3;have fb0:W.cell? ⟨fb,fo,none⟩=(g.tag:Int):=by obtain⟨a1,a2,a3,_,a5⟩:=hU.p;injection a3 with a3;injection a3 with a3;injection a3 with a3 a4;subst a3 a4;simpa using Ab a5 0 rfl
   first|(simp[Region.binds]at hpre;done)|simp[Region.binds]at hpre|clear hpre
  iterate 7
   ·exact ip
  ·have q2:=hU.v.c2;have qf:=hU.v.bk.live 2;have ql:=hU.v.lt;have hst:=hU.put (g.tag:Int) (hU.v.set2 _) hb0 aH aH hww;exact lu
  ·exact ip
  ·have q3:=hU.v.c3;have qf:=hU.v.bk.live 3;have ql:=hU.v.lt;have hst:=hU.put (.slice A7 1 c7) (hU.v.set3 _) hb0 aH aH hww;exact lu
 rintro L U W hL hφ hR;clear hφ;have hU:=hR;simp only[hL 7 aJ,hL 9 aJ,if_true]at hU;have U6:=Aa hU;have d0:=hU.v.c0;have d1:=hU.v.c1;have d2:=hU.v.c2;have d3:=hU.v.c3;clear hL hR hU;go_wp2_with ((with_reducible refine Ad (op:=⟨none,.store 44 _ _,_,_,_,none⟩) rfl 44 _ _ rfl w 0 [.int .u8 85,a6,(g.tag:Int),.slice A7 1 c7] ?_ ?_ ?_ ?_ ?_ ?_);rfl;rfl;(exact U6.o.f.2.1);kernel_rfl;(simp[Value.oneCell']);intro w9 HS9)
 have Z:=Se.fin (v:=.mk 85 [] g.tag [y]) (sl:=.slice A7 1 c7) U6.o.f hb0 HS9.o (U6.o.k.mono fun c hc _=>by omega);have hpv:(Bc (.mk 85 [] g.tag [y])).length=(Bc (Dr (g,y))).length+2:=by rw[Ts];simp
 have hn3':(Bc (Dr (g,y))).length+t2.length<=t1.length+8*N:=hn3;exact aF (v:=.agg (J8 (.mk 85 [] g.tag [y]) (.slice A7 1 c7)).toArray) (Bj results89 _ _ w.heap.size _ _ rfl Z.2.2 underlying44 rfl aL) rfl ⟨.mk 85 [] g.tag [y],_,t4,rfl,Z.1,by rw[HQ4.o];cases b4<;>exact Z.2.1,by rw[HQ4.o];cases b4<;>simp,.mk aH (by simp only[Jv]at hn3';simp[Dq];omega) aK (fun z hz=>by rw[aq]at hz;subst hz;exact HBy.o),by omega,by omega⟩
def Qy(ps:List (Fd × Vl)):Option (List (Fd × Vl) × List UInt8)->Option (List (Fd × Vl) × List UInt8)
 |some (us,z)=>some (ps++us,z)
 |none=>none
structure RI(S:List Ty)(K:Kd->List UInt8->Option (Vl × List UInt8))(fs:List Fd)(t1:List UInt8)(b1:Bool)(ps:List (Fd × Vl))(last:Nat)(tt:List UInt8):Prop where
 eq:b1=false->Es S K fs 201 0 t1=Qy ps (Es S K fs (201 - ps.length) last tt)
 len:Dq ((ps.map Dr).map Bc)+tt.length<=t1.length
 bd:∀p∈ps,Bd (Dr p)
 lo:ps.length<=last
 hi:last<=200
def RE(S:List Ty)(K:Kd->List UInt8->Option (Vl × List UInt8))(fs:List Fd)(t1:List UInt8)(b1:Bool)(vs:List Vl)(tt:List UInt8)(bb:Bool)(N:Nat):Prop:=
 ∃ps:List (Fd × Vl),(if b1 then none else Es S K fs 201 0 t1)=(if bb then none else match Au 125 tt with|some z=>some (ps,z)|none=>none)/\(bb=false->vs=ps.map Dr)/\Dq (vs.map Bc)+tt.length<=t1.length+8*N+1/\(∀x∈vs,Bd x)/\vs.length<=201
section
variable {S:List Ty} {K:Kd->List UInt8->Option (Vl × List UInt8)} {fs:List Fd} {t1 tt t' t'':List UInt8} {b1:Bool} {ps:List (Fd × Vl)} {last N:Nat} {g:Fd} {x:Vl}
theorem RI.init:RI S K fs t1 b1 [] 0 t1:=⟨fun _=>by cases h:Es S K fs 201 0 t1<;>simp[Qy,h],by simp[Dq],by simp,An _,by omega⟩
theorem RI.bad(h:RI S K fs t1 true ps last tt):RE S K fs t1 true (ps.map Dr) tt true N:=
 ⟨ps,by simp,fun h=>Bool.noConfusion h,by have:=h.len;omega,fun y hy=>by obtain⟨p,hp,rfl⟩:=ax.1 hy;exact h.bd p hp,by have:=h.lo;have:=h.hi;simp;omega⟩
theorem RI.fuel(h:RI S K fs t1 b1 ps last tt):∃m,201 - ps.length=m+1:=⟨200 - ps.length,by have:=h.lo;have:=h.hi;omega⟩
theorem RI.step(h:RI S K fs t1 false ps last tt)(hK:Do K fs tt=some ((g,x),t'))(hl:last<g.tag)(hne:Bc x≠J4 S g)(hlen:tt.length=(Bc (Dr (g,x))).length+t'.length)(hc:Au 44 t'=some t'')(hB:Bd (Dr (g,x)))(hg:g.tag<=200):
  RI S K fs t1 false (ps++[(g,x)]) g.tag t'':=by
 obtain⟨m,hm⟩:=h.fuel;have e:t'=44::t'':=Cy.1 hc;refine⟨fun _=>?_,?_,fun p hp=>?_,by have:=h.lo;simp;omega,hg⟩
 ·rw[h.eq rfl,hm,show 201 - (ps++[(g,x)]).length=m by simp;omega];conv=>lhs;unfold Es
  rw[hK];simp only;rw[if_neg gg,hc];simp only;cases Es S K fs m g.tag t''<;>simp[Qy]
 ·have:=h.len;rw[az,az,N7];simp[El,Dq]at this ⊢;rw[e]at hlen;simp at hlen;omega
 rcases af.1 hp with hp|hp
 ·exact h.bd p hp
 rw[aq]at hp;subst hp;exact hB
theorem RI.stop(h:RI S K fs t1 false ps last tt)(hs:∀y,Do K fs tt=some y->y.1.1.tag<=last\/Bc y.1.2=J4 S y.1.1)(hl:t'.length<=tt.length):RE S K fs t1 false (ps.map Dr) t' true N:=by
 obtain⟨m,hm⟩:=h.fuel;refine⟨ps,?_,fun h=>Bool.noConfusion h,by have:=h.len;omega,fun y hy=>by obtain⟨p,hp,rfl⟩:=ax.1 hy;exact h.bd p hp,by have:=h.lo;have:=h.hi;simp;omega⟩;rw[if_neg aJ,h.eq rfl,hm];unfold Es;cases hk:Do K fs tt with
 |none=>rfl
 |some y=>
  obtain⟨p,z⟩:=y;simp only;rw[if_pos (hs _ hk)];rfl
theorem RI.brk(h:RI S K fs t1 false ps last tt)(hx:∀y,Do K fs tt=some y->y=((g,x),t'))(hl:last<g.tag)(hne:Bc x≠J4 S g)(hc:Bl [44] t' (Do K fs tt).isNone=none)(hB:Bd (Dr (g,x)))
  (hn:(Bc (Dr (g,x))).length+t'.length<=tt.length+8*N):RE S K fs t1 false (ps.map Dr++[Dr (g,x)]) t' (Do K fs tt).isNone N:=by
 obtain⟨m,hm⟩:=h.fuel;refine⟨ps++[(g,x)],?_,fun _=>by simp,?_,?_,by have:=h.lo;have:=h.hi;simp;omega⟩
 ·rw[if_neg aJ,h.eq rfl,hm];unfold Es;cases hk:Do K fs tt with
  |none=>rfl
  |some y=>
   have:=hx y hk;subst this;rw[hk,Cv]at hc;simp only[Option.isNone_some,ao,if_false]at hc ⊢;rw[if_neg gg,hc];simp only;cases Au 125 t'<;>simp[Qy]
 ·have:=h.len;rw[az,N7];simp[El,Dq]at this ⊢;omega
 intro y hy;rcases af.1 hy with hy|hy
 ·obtain⟨p,hp,rfl⟩:=ax.1 hy;exact h.bd p hp
 rw[aq]at hy;subst hy;exact hB
theorem RE.fin{vs:List Vl}{bb:Bool}{t:List UInt8}(h:RE S K fs t1 b1 vs tt bb N)(h1:t1=(Bl [123] t false).getD t)(hb1:b1=(Bl [123] t false).isNone)(h2:Bl [125] t1 b1=none):
  (match Au 123 t with
   |none=>none
   |some r=>match Au 125 r with
    |some q=>some (Vl.mk 82 [] 0 [],q)
    |none=>match Es S K fs 201 0 r with|some (ps,q)=>some (.mk 82 [] 0 (ps.map Dr),q)|none=>none) =
  if (Bl [125] tt bb).isNone then none else some (.mk 82 [] 0 vs,(Bl [125] tt bb).getD tt):=by
 obtain⟨ps,h3,h4,_⟩:=h;rw[Cv]at h1 hb1 h2 ⊢;simp only[ao,if_false]at h1 hb1;cases hy:Au 123 t with
 |none=>
  rw[hy]at hb1;simp only[Option.isNone_none]at hb1;subst hb1;simp only[if_true]at h3;simp only;cases bb with
  |true=>simp
  |false=>
   simp only[ao,if_false]at h3 ⊢;cases hz:Au 125 tt with
   |none=>simp
   |some z=>rw[hz]at h3;cases h3
 |some r=>
  rw[hy]at h1 hb1;simp only[Option.isNone_some,Option.getD_some]at h1 hb1;subst h1 hb1;simp only[ao,if_false]at h2 h3;simp only;rw[h2];simp only;rw[h3];cases bb with
  |true=>simp
  |false=>
   rw[h4 rfl];simp only[ao,if_false];cases Au 125 tt<;>simp
end
end
end Go.Proofs.YtbdibdghphdcdaaGreatDoor
