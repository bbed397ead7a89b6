/- Texts joined. Conditions: as each theorem names them. -/
import Derived.DeepKeys4
import Derived.Test.YtgfmljfjgohdcaaGreatDoorL23
set_option maxRecDepth 100000
set_option maxHeartbeats 32000000
set_option linter.unusedVariables false
set_option linter.unusedSimpArgs false
namespace Go.Proofs.YtgfmljfjgohdcaaGreatDoor
open Go.RowKit Go.Proofs.Tryz
section
attribute [local go_sem] Qls Qkr Qj4 Qig ByteArray.mk_append_mk
theorem Zp(p:Value)(xs:List PT)(hok:∀y∈xs,En y.ty)(n:Nat)(k:Kd)(w:World)(hsc:Rr w p xs)(hk:Cs k)(hs:k.signs=[])(hb:k.base=[64])(x:PT)(hx:Fc xs k.name=some x)
  (hn:n<=9) (ih:x.ty.sort=85->∀f fs,x.ty.fields=f::fs->∀W,Rr W p xs->Calls prog 133 #[p,Gy f.kind] W (Gu (C4 (Ae xs) n f.kind) W)):
  Calls prog 133 #[p,Gy k] w (Gu (C4 (Ae xs) (n+1) k) w):=by
 have Hlen:=Aa (Qh (Ae xs) (fun t ht=>by obtain⟨y,hy,rfl⟩:=av.1 ht;exact hok y hy))
 have HF:=Aa (show C4 (Ae xs) (n+1) k=if x.ty.sort=82 then[123,125]else match x.ty.fields with|[]=>[]|f::_=>if x.ty.sort=69 then 35::Au f.tag else 60::(Au f.tag++61::(C4 (Ae xs) n f.kind++[62]))from by
  rw[C4,if_neg dz,if_neg dz,if_neg bH,if_neg bH,if_neg bH,Jm,hx];rfl)
 have hxm:=(Gm hx).1;have Hto:=Aa (hok _ hxm);have hnl:=H3 hk;have Hsc:=Aa hsc;obtain⟨pb,A,cc,mb,rfl,q0,q1,q2,q3,q4,htys,_⟩:=hsc;obtain⟨z0,_,z1,z2,z3,z4,A8,c,hz8,hl8',hrow8⟩:=htys x hxm;rw[hz8]at z3;have Hrow:=Aa hrow8;have Ih:=Aa ih
 have Hlk:=Aa (fun W (h:Below w w W)=>show (Instr.lookup 143 (.map (some mb)) k.name false).run prog W=.ok x.blk W from by
  have:=Gg (Db.below q4 h) k.name aF;rw[hx]at this;exact this)
 have hmb:=q4.lt;unfold Gy;rw[hs,hb];clear hk hs hb hx q1 q3 q4 htys hrow8 ih hok hz8 z2 z4 hxm;go_enter func133,ntmps133;go_wp2_with fail;refine(Jg _ _ _).mono ?_;rintro e w1 ⟨rfl,hb1⟩;obtain⟨hc1,_,hzz⟩:=Bx hb1;have y1:w1.cell? (w,1)=some (.string ⟨#[64]⟩):=(hc1 w 1 aH).trans aH;have y2:w1.cell? (w,2)=k.name:=(hc1 w 2 aH).trans aH;have Hb1:=@Aa (Below w w w1) (((Ar w.heap.size w).alloc (Am _) _).trans (hb1.mono aH));have hz1:w.heap.size<w1.heap.size:=cP;have m1:w1.cell? (pb,1)=some (.map (some mb)):=(Hb1.o.cell (p:=⟨pb,1,none⟩) q0).trans q2;have u0:w1.cell? (x.blk,0)=some (.int .u8 (x.ty.sort.toNat:Int)):=(Hb1.o.cell (p:=⟨x.blk,0,none⟩) z0).trans z1;have u2:w1.cell? (x.blk,2)=some (.slice A8 x.ty.fields.length c):=(Hb1.o.cell (p:=⟨x.blk,2,none⟩) z0).trans z3;have Hlook:=Aa (fun q=>Hlk.o (w1.drewN q) (Hb1.o.trans ((below_drewN (Ar _ _) q).mono Hb1.o.size)));clear hc1 hzz hb1 q2 z1 z3;go_wp2_with fail;refine M0 [20,21,22,23,24,25,26,5]
  (fun i v W=>match i with|0=>v=pb|1=>v=pb|2=>v=(pb,1)|3=>v=.map (some mb)|4=>v=(w,2)|5=>v=k.name|6=>v=x.blk|7=>v=x.blk|_=>True)
  (fun L U W=>∃q,W=w1.drewN q) (⟨1,rfl⟩) ?_ ?_
 ·repeat (first|exact Ap.nil|(refine Ap.cons ?_ ?_;rotate_left))
  all_goals
   rintro L U W hL hpre HR Hdep K hK;obtain⟨q,rfl⟩:=HR.o;have hlq:=Hlook.o q;first|(simp[Region.binds]at hpre;done)|simp[Region.binds]at hpre|clear hpre
  iterate 8
   ·exact fD
 rintro L U W hL hφ hR;have e7:U 7=x.blk:=hφ 7 aI;simp only[e7];clear hφ;obtain⟨q,rfl⟩:=hR;have Hbq:=Aa (Hb1.o.trans ((below_drewN (Ar w1.heap.size w1) q).mono Hb1.o.size));clear hL y1 y2 m1;by_cases h82:x.ty.sort=82
 ·have t82:((x.ty.sort.toNat:Int) == 82)=true:=Ba (d:=82) h82;have HF2:=Aa (HF.o.trans (if_pos h82));clear h82 HF;go_wp2_with fail;go_ret;exact⟨by rw[HF2.o];rfl,Hbq.o⟩
 have t82:((x.ty.sort.toNat:Int) == 82)=false:=Ao (d:=82) h82;have HF2:=Aa (HF.o.trans (if_neg h82));have hne:x.ty.fields≠[]:=fun h=>h82 (Hto.o.2.2.2.2 h);obtain⟨f,fs,hfs⟩:∃f fs,x.ty.fields=f::fs:=by
  cases h:x.ty.fields with
  |nil=>exact absurd h hne
  |cons f fs=>exact⟨f,fs,rfl⟩
 have hf0:0<x.ty.fields.length:=cz;have hge:x.ty.fields[0]=f:=by simp[hfs]
 have hft:=Hto.o.2.2.1.1 f cz;have htag:f.tag<=200:=hft.2.1;have hdl:=Di 2 f.tag bZ;have Hd:=Aa (fun W=>Ns f.tag f.tag W (Am _) aF);have hi0:(0:Int)<(x.ty.fields.length:Int):=aF;have HF3:=@Aa (C4 (Ae xs) (n+1) k=if x.ty.sort=69 then 35::Au f.tag else 60::(Au f.tag++61::(C4 (Ae xs) n f.kind++[62]))) (by rw[HF2.o,hfs]);have Hfs:=Aa hfs;obtain⟨b,off,rfl,hbl,hrg⟩:=Qs.range Hrow.o hf0;rw[hge]at hrg;have hrq:=Ah hrg hbl Hbq.o;simp only[Nat.zero_mul,Nat.add_zero]at hrq;have g0:(w1.drewN q).cell? ⟨b,off,none⟩=(f.tag:Int):=by simpa using Ab hrq 0 rfl
 have G2:=Aa (Ab hrq 2 rfl);have G3:=Aa (Ab hrq 3 rfl);have G4:=Aa (Ab hrq 4 rfl);have H82:=Aa h82;clear HF2 HF h82 hne hfs hge hft hrg hrq;by_cases h69:x.ty.sort=69
 ·have t69:((x.ty.sort.toNat:Int) == 69)=true:=Ba (d:=69) h69;have HF4:=Aa (HF3.o.trans (if_pos h69));clear h69 HF3;go_wp2_with fail;refine(Hd.o _).mono ?_;rintro e w2 ⟨rfl,hb2⟩;go_wp2_with fail;go_ret;exact⟨by rw[HF4.o];simp,Hbq.o.trans (hb2.mono Hbq.o.size)⟩
 have t69:((x.ty.sort.toNat:Int) == 69)=false:=Ao (d:=69) h69;have HF4:=Aa (HF3.o.trans (if_neg h69));have h85:x.ty.sort=85:=by
  rcases Hto.o.1 with h|h|h
  ·exact absurd h H82.o
  ·exact h
  exact absurd h h69
 have Ih2:=Aa (Ih.o h85 f fs Hfs.o);unfold Gy at Ih2;have hsl:=Hlen.o n f.kind;generalize C4 (Ae xs) n f.kind=sl at *;clear h69 HF3 h85 Ih;go_wp2_with fail;obtain⟨W0,hW0⟩:∃W0,W0=w1.drewN q:=⟨_,rfl⟩
 rw[<-hW0]at Hbq g0 G2 G3 G4 ⊢;have Y2:=@Aa (W0.cell? (x.blk,2)=some (.slice (some ⟨b,off,none⟩) x.ty.fields.length c)) (by rw[hW0];exact u2);have Y0:=Aa g0;have Y3:=@Aa (W0.cell? ⟨b,off+2,none⟩=some (.string ⟨f.kind.signs.toArray⟩)) G2.o;have Y4:=@Aa (W0.cell? ⟨b,off+3,none⟩=some (.string ⟨f.kind.base.toArray⟩)) G3.o;have Y5:=@Aa (W0.cell? ⟨b,off+4,none⟩=some (.string ⟨f.kind.name.toArray⟩)) G4.o;have Hx5:=@Aa (x.blk<W0.heap.size) (a8 z0 Hbq.o.size);have Hb5:=@Aa (b<W0.heap.size) (a8 hbl Hbq.o.size);have Hsc0:=Aa (Hsc.o.below Hbq.o);clear hW0 g0 u0 u2;refine M0 [44,45,46,47,48,49,50,51,52,53,54,55,56,57,58,59,60,61,62,63,64,4]
  (fun i v W=>match i with|0=>v=x.blk|1=>v=x.blk|2=>v=(x.blk,2)|3=>v=.slice (some ⟨b,off,none⟩) x.ty.fields.length c|4=>v=.pointer (some ⟨b,off,none⟩)|5=>v=.pointer (some ⟨b,off,none⟩)|6=>v=(f.tag:Int)|7=>v=.string ⟨(Au f.tag).toArray⟩|8=>v=.string ⟨(60::Au f.tag).toArray⟩|9=>v=.string ⟨(60::(Au f.tag++[61])).toArray⟩|10=>v=pb|11=>v=x.blk|12=>v=x.blk|13=>v=(x.blk,2)|14=>v=.slice (some ⟨b,off,none⟩) x.ty.fields.length c|15=>v=.pointer (some ⟨b,off,none⟩)|16=>v=.pointer (some ⟨b,off+2,none⟩)|17=>v=.agg #[.string ⟨f.kind.signs.toArray⟩,.string ⟨f.kind.base.toArray⟩,.string ⟨f.kind.name.toArray⟩]|18=>v=.string ⟨(sl).toArray⟩|19=>v=.string ⟨(60::(Au f.tag++61::sl)).toArray⟩|20=>v=.string ⟨(60::(Au f.tag++61::(sl++[62]))).toArray⟩|21=>v=.string ⟨(60::(Au f.tag++61::(sl++[62]))).toArray⟩|_=>True)
  (fun L U W=>Below W0 W0 W) ((Ar _ _).drew) ?_ ?_
 ·repeat (first|exact Ap.nil|(refine Ap.cons ?_ ?_;rotate_left))
  all_goals
   rintro L U W hL hpre HR Hdep K hK;have hB:=HR.o;have c2:=(hB.cell (p:=⟨x.blk,2,none⟩) Hx5.o).trans Y2.o;have c0:=(hB.cell (p:=⟨b,off,none⟩) Hb5.o).trans Y0.o;have c3:=(hB.cell (p:=⟨b,off+2,none⟩) Hb5.o).trans Y3.o;have c4:=(hB.cell (p:=⟨b,off+3,none⟩) Hb5.o).trans Y4.o;have c5:=(hB.cell (p:=⟨b,off+4,none⟩) Hb5.o).trans Y5.o;have c4':W.cell? ⟨b,off+2+1,none⟩=_:=c4;have c5':W.cell? ⟨b,off+2+1+1,none⟩=_:=c5;have c5'':W.cell? ⟨b,off+2+2,none⟩=_:=c5;first|(simp[Region.binds]at hpre;done)|simp[Region.binds]at hpre|clear hpre
  iterate 7
   ·exact fD
  ·exact gw
  ·exact fK
  ·exact fK
  iterate 8
   ·exact fD
  ·exact gk
  ·exact fK
  ·exact fK
  ·exact fD
 rintro L U W hL hφ hR;have e21:U 21=.string ⟨(60::(Au f.tag++61::(sl++[62]))).toArray⟩:=hφ 21 aI;simp only[e21];clear hφ;have Hb9:=Aa (Hbq.o.trans (hR.mono Hbq.o.size));clear hR;go_wp2_with fail;go_ret;exact⟨by rw[HF4.o];rfl,Hb9.o⟩
theorem Qt(p:Value)(S:List Ty)(n:Nat)(k:Kd)(w:World)(hk:Cs k)(h:¬(k.signs=[]/\k.base=[64])):
  Calls prog 133 #[p,Gy k] w (Gu (C4 S (n+1) k) w):=by
 unfold Gy;cases hs:k.signs with
 |cons c t=>
  have hc:=Ql hk hs;have hl:=hk.2.2;unfold Be at hl;rw[hs]at hl;rw[Nt _ _ k c t hs hc];exact Z9 p c t _ _ w hc (by simp at hl;omega)
 |nil=>
  have hb:k.base≠[64]:=fun hb=>h ⟨hs,hb⟩;rw[Md _ _ k hs (Mt hk hs hb).2];exact Ve p k.base _ w (Mt hk hs hb).2
theorem Qa3(p:Value)(xs:List PT)(hok:∀x∈xs,En x.ty)(hS:Fs (Ae xs)):∀(n:Nat),n<=9->∀(k:Kd) (w:World),Rr w p xs->Cs k->Bq (Ae xs) k->Xb (Ae xs) n k ->
  Calls prog 133 #[p,Gy k] w (Gu (C4 (Ae xs) (n+1) k) w):=by
 intro n;induction n with
 |zero=>
  intro _ k w hsc hk hr he;refine Qt p _ 0 k w hk (fun h=>?_);obtain⟨t,_,h2⟩:=he h.1 h.2;exact absurd h2 (by simp[Bs])
 |succ n ih=>
  intro hn k w hsc hk hr he;by_cases hsb:k.signs=[]/\k.base=[64]
  ·obtain⟨hs,hb⟩:=hsb;have h1:=hr hb;rw[Jm]at h1;cases hx:Fc xs k.name with
   |none=>rw[hx]at h1;cases h1
   |some x=>
    have hft:Bu (Ae xs) k.name=some x.ty:=(Gm hx).2.2;have hto:En x.ty:=hok _ (Gm hx).1;refine Zp p xs hok (n+1) k w hsc hk hs hb x hx hn (fun h85 f fs hfs W hW=>?_);have hrf:Bq (Ae xs) f.kind:=hS x.ty (Ch hft).1 dl f cz;exact iu
  exact Qt p _ (n+1) k w hk hsb
theorem Qb9(p:Value)(xs:List PT)(h:Jv (Ae xs))(k:Kd)(w:World)(hsc:Rr w p xs)(hk:Cs k)(hr:Bq (Ae xs) k):
  Calls prog 133 #[p,Gy k] w (Gu (Ri (Ae xs) k) w):=
 Qa3 p xs (fun x hx=>h.1.1 x.ty (am hx)) h.2.1 9 (Am _) k w hsc hk hr (Yh h hr)
theorem Qal(p:Value)(xs:List PT)(h:Jv (Ae xs))(f:Fd)(b o:Nat)(w:World)(hsc:Rr w p xs)(hf:w.rangeAt b o (Sc f))(hk:Cs f.kind)(hr:Bq (Ae xs) f.kind)(hl:f.given.length<=1000):
  Calls prog 71 #[p,.pointer (some ⟨b,o,none⟩)] w (Gu (M6 (Ae xs) f) w):=by
 have HF:=@Aa (M6 (Ae xs) f=if f.given=[]then Ri (Ae xs) f.kind else f.given) rfl;have Hs:=Aa (fun W (h1:Rr W p xs)=>Qb9 p xs h f.kind W h1 hk hr);have Hsc:=Aa hsc;unfold Gy at Hs;have c2:w.cell? ⟨b,o+2,none⟩=f.kind.signs:=Ab hf 2 rfl;have c3:w.cell? ⟨b,o+3,none⟩=f.kind.base:=Ab hf 3 rfl;have c4:w.cell? ⟨b,o+4,none⟩=f.kind.name:=Ab hf 4 rfl;have c5:w.cell? ⟨b,o+5,none⟩=f.given:=Ab hf 5 rfl;have c3':w.cell? ⟨b,o+2+1,none⟩=f.kind.base:=c3;have c4':w.cell? ⟨b,o+2+1+1,none⟩=f.kind.name:=c4;have c4'':w.cell? ⟨b,o+2+2,none⟩=f.kind.name:=c4;clear h hk hr hsc hf;by_cases hg:f.given=[]
 ·have HF2:=Aa (HF.o.trans (if_pos hg));rw[hg]at c5;clear hg HF;go_enter func71,ntmps71;go_wp2_with fail;refine(Hs.o _ Hsc.o).mono ?_;rintro e w1 ⟨rfl,hb1⟩;go_wp2_with fail;go_ret;exact⟨by rw[HF2.o];rfl,hb1⟩
 have HF2:=Aa (HF.o.trans (if_neg hg));have t1:f.given.isEmpty=false:=by simpa using hg
 have t2:(!f.given.isEmpty)=true:=by simp[t1]
 clear hg HF;go_enter func71,ntmps71;go_wp2_with fail;go_ret;exact⟨by rw[HF2.o];rfl,Ar _ _⟩
end
theorem Tryz.laidOutI:laidOutB prog=true:=aJ
def Pz(p:Cr):List UInt8:=keyBytes [.string p.1,.string p.2]
theorem Tryz.keyPairs:Go.Maps.Keyed prog 284:=Go.Maps.Keyed.of_law (deep_law_laid Tryz.laidOutI (m:=2) aF (of_decide_eq_true aJ) aJ aJ)
theorem Tryz.typesPos:0<prog.types.size:=of_decide_eq_true aJ
theorem Qfv{p q:Cr}(hp:p.1.length<=100/\p.2.length<=100)(hq:q.1.length<=100/\q.2.length<=100)(h:Pz p=Pz q):p=q:=by
 have:=keyBytes_inj (l:=[.string p.1,.string p.2]) (l':=[.string q.1,.string q.2]) ⟨Ac,Ac,Ac⟩
  dk dk h
 simp at this;exact Prod.ext this.1 this.2
theorem Tryz.keyPair{a b:Cc}(ha:a.length<=100)(hb:b.length<=100):keyOf prog 284 (.agg #[a,b])=some (.string (Pz (a,b))):=by
 have hkt:prog.keyType 284=true:=aJ;have hc:prog.cellsOf 284=2:=aJ;have hs:prog.cellsOf 9=1:=aJ;have h0:0<prog.types.size:=Tryz.typesPos;obtain⟨d,hd⟩:=Nat.exists_eq_succ_of_ne_zero (Nat.pos_iff_ne_zero.1 h0);have e1:(⟨a.toArray⟩:ByteArray).size=a.length:=by simp[ByteArray.size]
 have e2:(⟨b.toArray⟩:ByteArray).size=b.length:=by simp[ByteArray.size]
 have l1:a.length<=9223372036854775807:=aF;have l2:b.length<=9223372036854775807:=aF;unfold keyOf;simp only[underlying284];have hL:prog.keyLits (prog.types.size+1) 284 [a,b]=some [.string a,.string b]:=by
  rw[hd];simp only[Program.keyLits,underlying284,underlying9,hc,hs,e1,e2,maxLen];simp[Program.keyLits,underlying284,underlying9,hc,hs,e1,e2,l1,l2,maxLen]
 have hf:(Value.agg #[a,b]).formed prog 284=true:=by
  simp[Value.formed,underlying284,hc]
 simp only[hkt,hf,Bool.and_self,if_true,Value.cells,hL,Option.map_some];rfl
def N7(m:List Cr)(l:Lit):Value:=.bool (m.any fun p=>l.sameKey (.string (Pz p)))
theorem Qao(m:List Cr)(p:Cr)(l:Lit):(if l.sameKey (.string (Pz p))=true then .bool true else N7 m l)=N7 (m++[p]) l:=by
 unfold N7;rw[List.any_append];cases h:l.sameKey (.string (Pz p))<;>simp[h]
theorem Qga{m:List Cr}{p:Cr}(hp:p.1.length<=100/\p.2.length<=100)(hm:∀q∈m,q.1.length<=100/\q.2.length<=100):N7 m (.string (Pz p))=.bool (decide (p∈m)):=by
 unfold N7;congr 1
 rw[Bool.eq_iff_iff,List.any_eq_true,decide_eq_true_eq];constructor
 ·rintro⟨q,hq,h⟩;have:Pz p=Pz q:=by simpa [Lit.sameKey]using h
  rw[Qfv hp (hm q hq) this];exact hq
 intro h;exact⟨p,h,by simp[Lit.sameKey]⟩
theorem Tryz.zeroBool(w:World):(zeroValue 4).run prog w=.ok (.bool false) w:=aJ
def Eh(w0:World)(p1 p2:Value)(w:World)(m:List Cr):Prop:=
 Below w0 w0 w/\w0.heap.size+2<=w.heap.size/\w.cell? (w0,1,0)=some p1/\w.cell? (w0,1,1)=some p2/\w.cell? (w0,1,2)=some (.map (some w0.heap.size)) /\
  Db prog 284 (.bool false) w w0.heap.size m.length (N7 m)
theorem Eh.below{w0 w w':World}{p1 p2:Value}{m:List Cr}(h:Eh w0 p1 p2 w m)(hb:Below w w w'):Eh w0 p1 p2 w' m:=by
 obtain⟨h1,h2,h3,h4,h5,h6⟩:=h
 exact⟨h1.trans (hb.mono aF),aa h2 hb.size,(hb.cell (p:=⟨w0.heap.size+1,0,none⟩) (show w0.heap.size+1<_ by omega)).trans h3,(hb.cell (p:=⟨w0.heap.size+1,1,none⟩) (show w0.heap.size+1<_ by omega)).trans h4,
  (hb.cell (p:=⟨w0.heap.size+1,2,none⟩) (show w0.heap.size+1<_ by omega)).trans h5,h6.below hb⟩
theorem Ca{w w':World}(h:Below w w w')(row:Option Nat):w.grownBy w' row:=⟨h.os,h.tape,h.output,h.size,fun k hk _=>h.block k hk⟩
theorem Eh.push{w0 w w5:World}{p1 p2:Value}{m:List Cr}{p:Cr}(h:Eh w0 p1 p2 w m)(hg:w.grownBy w5 (some w0.heap.size))(hf:Db prog 284 (.bool false) w5 w0.heap.size (m.length+1) (fun l=>if l.sameKey (.string (Pz p))=true then .bool true else N7 m l)):Eh w0 p1 p2 w5 (m++[p]):=by
 obtain⟨h1,h2,h3,h4,h5,h6⟩:=h;have hc:∀j,w5.cell? ⟨w0.heap.size+1,j,none⟩=w.cell? ⟨w0.heap.size+1,j,none⟩:=fun j=>hg.cell_far ⟨w0.heap.size+1,j,none⟩ (show w0.heap.size+1<_ by omega) aH;refine⟨h1.grown hg aF (fun k hk=>by injection hk with hk;omega),aa h2 hg.size,(hc 0).trans h3,(hc 1).trans h4,(hc 2).trans h5,?_⟩;rw[af];exact hf.of_eq (fun l hl=>Qao m p l)
def Rl(w0:World)(p1 p2:Value)(r:Bool × List Cr)(w:World)(e:Ending)(w':World):Prop:=e=.returned (.bool r.1)/\Eh w0 p1 p2 w' r.2/\w.grownBy w' (some w0.heap.size)
def evP(S T:List Ty)(K:Kd->Kd->List Cr->Bool × List Cr)(t u:Ty)(m:List Cr):Bool × List Cr:=
 if (t.name,u.name)∈m then(true,m)else Yi S T K t u (m++[(t.name,u.name)])
end Go.Proofs.YtgfmljfjgohdcaaGreatDoor
